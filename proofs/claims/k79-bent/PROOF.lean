import PyProof.Rows.All
import Wide.All
import OpenK.AllK
import Wide.FinOn
import HandS.ForMost
import HandS.ForExc
import HandS.TupAny
import HandS.IsInst
import HandS.Rev
import HandS.Steps
import HandS.Evl
import HandS.Deep
import HandS.TupMul
import HandS.RaiseMore
import HandS.Text
import HandS.EndBits
import HandS.HeadEnd
import HandS.Defaults
import PyProof.ReprLen
import PyProof.ReprRoads
import PyProof.ListRange
import HandS.RevTup
import HandS.Flow
import HandS.TryOnly
import HandS.FStr
import HandS.Words
import HandS.WordsExc
import HandS.Codes
import HandS.Exc
import HandS.ExcInit
import HandS.ExcSuper
import HandS.ExcIs
import HandS.ExcField
import KE.KExcSuper
import HandS.HotCalls
import HandS.ExcCtx
import HandS.ReplaceLit
import HandS.HeadHook1
import HandS.HeadHook2
import HandS.Head0
import HandS.Head1
import HandS.Head2
import HandS.Head3
import KE.KStateDown
import PySem.Challenge.RW_mendinghalls_k79_book_texts_refused
set_option Elab.async false
set_option linter.all false
set_option maxRecDepth 100000
set_option maxHeartbeats 0
set_option synthInstance.maxHeartbeats 400000
set_option synthInstance.maxSize 4000
/-! Values instead of heaps: what a reading does to slots that hold data (PyData), lists of the def's own, or things of a kind. -/
namespace L2
open PySem

def Ext (H H' : Hp) : Prop := ∀ a o, H a = some o → H' a = some o
theorem Ext.refl (H : Hp) : Ext H H := fun _ _ h => h
theorem Ext.trans {H H1 H2 : Hp} (a : Ext H H1) (b : Ext H1 H2) : Ext H H2 := fun x o h => b x o (a x o h)
theorem Ext.rd {H H' : Hp} {a : Addr} {u : HO} (e : Ext H H') (h : Rd H a u) : Rd H' a u := by
  rcases h with h | ⟨o, h⟩
  · exact .inl (e _ _ h)
  · exact .inr ⟨o, e _ _ h⟩
theorem Ext.l {K : PySem.W.Frag} {H H' : Hp} {a : Addr} {xs : List V} (e : Ext H H') (h : SqL K H a xs) : SqL K H' a xs := by
  rcases h with h | h
  · exact .inl (e.rd h)
  · exact .inr h
theorem Ext.t {K : PySem.W.Frag} {H H' : Hp} {a : Addr} {xs : List V} (e : Ext H H') (h : SqT K H a xs) : SqT K H' a xs := by
  rcases h with h | h
  · exact .inl (e.rd h)
  · exact .inr h
end L2
namespace Mh
open PySem L2
abbrev Ex := Ext
/-! ### data: as the layer's, and instances that do not change (their fields told), things known by their place alone -/
abbrev ObD (a C : Nat) (ns : List Str) (ds : List PyData) : PyData := .dict [(.list [.int (.ofNat a), .int (.ofNat C), .tuple (ns.map .str)], .tuple ds)]
abbrev AtD (a : Nat) : PyData := .dict [(.int (.ofNat a), .none)]
mutual
inductive Dp (K : PySem.W.Frag) (H : Hp) : V → PyData → Prop
  | non : Dp K H .non .none
  | bl (b : Bool) : Dp K H (.bl b) (.bool b)
  | int (i : Int) : Dp K H (.int i) (.int i)
  | str (x : Str) : Dp K H (.str x) (.str x)
  | lst {a : Addr} {xs : List V} {ds : List PyData} : SqL K H a xs → DpAll K H xs ds → Dp K H (.ref a) (.list ds)
  | tup {a : Addr} {xs : List V} {ds : List PyData} : SqT K H a xs → DpAll K H xs ds → Dp K H (.ref a) (.tuple ds)
  | ins {a C dx : Addr} {fs : List (Str × V)} {ds : List PyData} : H a = some (.ins C dx fs) → DpAll K H (fs.map (·.2)) ds → Dp K H (.ref a) (ObD a C (fs.map (·.1)) ds)
  | atm {a : Addr} : Dp K H (.ref a) (AtD a)
inductive DpAll (K : PySem.W.Frag) (H : Hp) : List V → List PyData → Prop
  | nil : DpAll K H [] []
  | cons {v : V} {vs : List V} {d : PyData} {ds : List PyData} : Dp K H v d → DpAll K H vs ds → DpAll K H (v :: vs) (d :: ds)
end
mutual
theorem Dp.ex {K : PySem.W.Frag} {H H' : Hp} (e : Ext H H') : ∀ {v : V} {d : PyData}, Dp K H v d → Dp K H' v d
  | _, _, .non => .non
  | _, _, .bl b => .bl b
  | _, _, .int i => .int i
  | _, _, .str x => .str x
  | _, _, .lst h a => .lst (e.l h) (DpAll.ex e a)
  | _, _, .tup h a => .tup (e.t h) (DpAll.ex e a)
  | _, _, .ins h a => .ins (e _ _ h) (DpAll.ex e a)
  | _, _, .atm => .atm
theorem DpAll.ex {K : PySem.W.Frag} {H H' : Hp} (e : Ext H H') : ∀ {vs : List V} {ds : List PyData}, DpAll K H vs ds → DpAll K H' vs ds
  | _, _, .nil => .nil
  | _, _, .cons h a => .cons (Dp.ex e h) (DpAll.ex e a)
end
/-! what the layer takes -/
mutual
theorem Dp.kit {K : PySem.W.Frag} {H : Hp} : ∀ {v : V} {d : PyData}, d.canLay0 = true → Dp K H v d → L2.Dp K H v d
  | _, _, _, .non => .non
  | _, _, _, .bl b => .bl b
  | _, _, _, .int i => .int i
  | _, _, _, .str x => .str x
  | _, _, c, .lst h a => .lst h (DpAll.kit (by simpa only [PyData.canLay0] using c) a)
  | _, _, c, .tup h a => .tup h (DpAll.kit (by simpa only [PyData.canLay0] using c) a)
  | _, _, c, .ins h a => by simp [PyData.canLay0] at c
  | _, _, c, .atm => by simp [PyData.canLay0] at c
theorem DpAll.kit {K : PySem.W.Frag} {H : Hp} : ∀ {vs : List V} {ds : List PyData}, PyData.canLayAll0 ds = true → DpAll K H vs ds → L2.DpAll K H vs ds
  | _, _, _, .nil => .nil
  | _, _, c, .cons h a => by
    simp only [PyData.canLayAll0, Bool.and_eq_true] at c
    exact .cons (Dp.kit c.1 h) (DpAll.kit c.2 a)
end
/-- no list within -/
def nl : PyData → Bool
  | .none => true
  | .bool _ => true
  | .int _ => true
  | .str _ => true
  | .list _ => false
  | .tuple xs => nlAll xs
  | .dict xs => nlK xs
where
  nlAll : List PyData → Bool
    | [] => true
    | x :: xs => nl x && nlAll xs
  nlK : List (PyData × PyData) → Bool
    | [] => true
    | (_, x) :: xs => nl x && nlK xs
abbrev nlAll := nl.nlAll
def isL : Option HO → Prop
  | some (.lst _) => True
  | _ => False
/-- all but lists stays -/
def Tx (H H' : Hp) : Prop := ∀ a o, H a = some o → ¬ isL (some o) → H' a = some o
theorem Tx.t {K : PySem.W.Frag} {H H' : Hp} {a : Addr} {xs : List V} (e : Tx H H') (h : SqT K H a xs) : SqT K H' a xs := by
  rcases h with (h | ⟨o, h⟩) | h
  · exact .inl (.inl (e _ _ h id))
  · exact .inl (.inr ⟨o, e _ _ h id⟩)
  · exact .inr h
mutual
theorem Dp.tx {K : PySem.W.Frag} {H H' : Hp} (e : Tx H H') : ∀ {v : V} {d : PyData}, nl d = true → Dp K H v d → Dp K H' v d
  | _, _, _, .non => .non
  | _, _, _, .bl b => .bl b
  | _, _, _, .int i => .int i
  | _, _, _, .str x => .str x
  | _, _, n, .lst h a => by simp [nl] at n
  | _, _, n, .tup h a => .tup (e.t h) (DpAll.tx e (by simpa [nl] using n) a)
  | _, _, n, .ins h a => .ins (e _ _ h id) (DpAll.tx e (by simpa [nl, nl.nlK] using n) a)
  | _, _, _, .atm => .atm
theorem DpAll.tx {K : PySem.W.Frag} {H H' : Hp} (e : Tx H H') : ∀ {vs : List V} {ds : List PyData}, nlAll ds = true → DpAll K H vs ds → DpAll K H' vs ds
  | _, _, _, .nil => .nil
  | _, _, n, .cons h a => by
    simp only [nlAll, nl.nlAll, Bool.and_eq_true] at n
    exact .cons (Dp.tx e n.1 h) (DpAll.tx e n.2 a)
end
theorem DpAll.length {K : PySem.W.Frag} {H : Hp} : ∀ {vs : List V} {ds : List PyData}, DpAll K H vs ds → vs.length = ds.length
  | _, _, .nil => rfl
  | _, _, .cons _ a => by simp [DpAll.length a]
theorem DpAll.append {K : PySem.W.Frag} {H : Hp} : ∀ {vs ws : List V} {ds es : List PyData}, DpAll K H vs ds → DpAll K H ws es → DpAll K H (vs ++ ws) (ds ++ es)
  | _, _, _, _, .nil, b => b
  | _, _, _, _, .cons h a, b => .cons h (DpAll.append a b)
theorem DpAll.get {K : PySem.W.Frag} {H : Hp} : ∀ {vs : List V} {ds : List PyData} {i : Nat} {v : V}, DpAll K H vs ds → vs[i]? = some v → ∃ d, ds[i]? = some d ∧ Dp K H v d
  | _, _, i, v, .nil, e => by simp at e
  | _, _, 0, v, .cons h a, e => by simp at e; subst e; exact ⟨_, rfl, h⟩
  | _, _, i + 1, v, .cons h a, e => by
    obtain ⟨d, h1, h2⟩ := DpAll.get (i := i) a (by simpa using e)
    exact ⟨d, by simpa using h1, h2⟩
theorem DpAll.getd {K : PySem.W.Frag} {H : Hp} : ∀ {vs : List V} {ds : List PyData} {i : Nat} {d : PyData}, DpAll K H vs ds → ds[i]? = some d → ∃ v, vs[i]? = some v ∧ Dp K H v d
  | _, _, i, v, .nil, e => by simp at e
  | _, _, 0, v, .cons h a, e => by simp at e; subst e; exact ⟨_, rfl, h⟩
  | _, _, i + 1, v, .cons h a, e => by
    obtain ⟨d, h1, h2⟩ := DpAll.getd (i := i) a (by simpa using e)
    exact ⟨d, by simpa using h1, h2⟩
theorem DpAll.take {K : PySem.W.Frag} {H : Hp} : ∀ {vs : List V} {ds : List PyData} (n : Nat), DpAll K H vs ds → DpAll K H (vs.take n) (ds.take n)
  | _, _, 0, _ => by simpa using DpAll.nil
  | _, _, _ + 1, .nil => .nil
  | _, _, n + 1, .cons h a => .cons h (DpAll.take n a)
theorem DpAll.drop {K : PySem.W.Frag} {H : Hp} : ∀ {vs : List V} {ds : List PyData} (n : Nat), DpAll K H vs ds → DpAll K H (vs.drop n) (ds.drop n)
  | _, _, 0, h => by simpa using h
  | _, _, _ + 1, .nil => .nil
  | _, _, n + 1, .cons h a => DpAll.drop n a
theorem DpAll.reverse {K : PySem.W.Frag} {H : Hp} : ∀ {vs : List V} {ds : List PyData}, DpAll K H vs ds → DpAll K H vs.reverse ds.reverse
  | _, _, .nil => .nil
  | _, _, .cons h a => by
    rw [List.reverse_cons, List.reverse_cons]
    exact DpAll.append (DpAll.reverse a) (.cons h .nil)
theorem DpAll.dropLast {K : PySem.W.Frag} {H : Hp} {vs : List V} {ds : List PyData} (h : DpAll K H vs ds) : DpAll K H vs.dropLast ds.dropLast := by
  rw [List.dropLast_eq_take, List.dropLast_eq_take, h.length]
  exact h.take _
theorem DpAll.ints {K : PySem.W.Frag} {H : Hp} : ∀ {ns : List Int} {vs : List V}, DpAll K H vs (ns.map .int) → vs = ns.map V.int
  | [], _, .nil => rfl
  | _ :: _, _, .cons (.int _) a => by rw [DpAll.ints a]; rfl
theorem DpAll.of_ints {K : PySem.W.Frag} {H : Hp} : ∀ (ns : List Int), DpAll K H (ns.map V.int) (ns.map .int)
  | [] => .nil
  | _ :: r => .cons (.int _) (DpAll.of_ints r)
theorem DpAll.strs {K : PySem.W.Frag} {H : Hp} : ∀ {ns : List Str} {vs : List V}, DpAll K H vs (ns.map .str) → vs = ns.map V.str
  | [], _, .nil => rfl
  | _ :: _, _, .cons (.str _) a => by rw [DpAll.strs a]; rfl
theorem DpAll.of_strs {K : PySem.W.Frag} {H : Hp} : ∀ (ns : List Str), DpAll K H (ns.map V.str) (ns.map .str)
  | [] => .nil
  | _ :: r => .cons (.str _) (DpAll.of_strs r)
/-! ### kinds, contexts -/
structure Knd where
  ok : PySem.W.Frag → Hp → V → Prop
  up : ∀ {K : PySem.W.Frag} {H H' : Hp} {v : V}, Ex H H' → ok K H v → ok K H' v
/-- what a slot, a value is known to be: nothing; data; the def's own list at l; a new list (a value alone); a thing of a kind -/
inductive Kd where
  | un | dat (d : PyData) | own (l : Addr) (ds : List PyData) | new (ds : List PyData) | k (φ : Knd)
/-- the context: the written part; the lists that may change by calls (F) and what holds of them (J); the heap at the entry; whether lists that stood there are left out (fr); data that must stand (pn); what is wished of a raise -/
structure Ct where
  K : PySem.W.Frag
  F : Addr → Prop
  J : Hp → Prop
  H0 : Hp
  fr : Bool
  pn : List (V × PyData)
  E : XK
  Z : Value → List (Str × PyData) → Prop
def Own (ρ : List Kd) (a : Addr) : Prop := ∃ (i : Nat) (ds : List PyData), ρ[i]? = some (Kd.own a ds)
open Classical in
noncomputable def msk (C : Ct) (ρ : List Kd) (H : Hp) : Hp := fun a => if Own ρ a ∨ C.F a ∨ (C.fr = true ∧ C.H0 a ≠ none ∧ isL (H a)) then none else H a
open Classical in
noncomputable def fsh (H0 : Hp) (F : Addr → Prop) (H : Hp) : Hp := fun a => if F a ∨ (H0 a ≠ none ∧ isL (H a)) then none else H a
def del (l : Addr) (H : Hp) : Hp := fun a => if a = l then none else H a
theorem msk_of {C : Ct} {ρ : List Kd} {H : Hp} {a : Addr} {o : HO} (h : msk C ρ H a = some o) : H a = some o ∧ ¬ Own ρ a ∧ ¬ C.F a ∧ ¬ (C.fr = true ∧ C.H0 a ≠ none ∧ isL (H a)) := by
  unfold msk at h
  split at h
  · cases h
  · rename_i n
    exact ⟨h, fun z => n (.inl z), fun z => n (.inr (.inl z)), fun z => n (.inr (.inr z))⟩
theorem msk_mk {C : Ct} {ρ : List Kd} {H : Hp} {a : Addr} {o : HO} (h : H a = some o) (h1 : ¬ Own ρ a) (h2 : ¬ C.F a) (h3 : ¬ (C.fr = true ∧ C.H0 a ≠ none ∧ isL (H a))) : msk C ρ H a = some o := by
  unfold msk
  rw [if_neg (fun z => z.elim h1 (fun z => z.elim h2 h3))]
  exact h
theorem fsh_of {H0 : Hp} {F : Addr → Prop} {H : Hp} {a : Addr} {o : HO} (h : fsh H0 F H a = some o) : H a = some o ∧ ¬ F a ∧ ¬ (H0 a ≠ none ∧ isL (H a)) := by
  unfold fsh at h
  split at h
  · cases h
  · rename_i n
    exact ⟨h, fun z => n (.inl z), fun z => n (.inr z)⟩
theorem fsh_mk {H0 : Hp} {F : Addr → Prop} {H : Hp} {a : Addr} {o : HO} (h : H a = some o) (h2 : ¬ F a) (h3 : ¬ (H0 a ≠ none ∧ isL (H a))) : fsh H0 F H a = some o := by
  unfold fsh
  rw [if_neg (fun z => z.elim h2 h3)]
  exact h
theorem del_of {l : Addr} {H : Hp} {a : Addr} {o : HO} (h : del l H a = some o) : H a = some o ∧ a ≠ l := by
  unfold del at h
  split at h
  · cases h
  · exact ⟨h, by assumption⟩
theorem del_mk {l : Addr} {H : Hp} {a : Addr} {o : HO} (h : H a = some o) (n : a ≠ l) : del l H a = some o := by
  unfold del
  rw [if_neg n]
  exact h
theorem del_ex {l : Addr} {H H' : Hp} (e : Ex H H') : Ex (del l H) (del l H') := fun a o h => del_mk (e _ _ (del_of h).1) (del_of h).2
theorem del_le {l : Addr} {H : Hp} : Ex (del l H) H := fun a o h => (del_of h).1
theorem msk_le {C : Ct} {ρ : List Kd} {H : Hp} : Ex (msk C ρ H) H := fun _ _ h => (msk_of h).1
theorem fsh_le {H0 : Hp} {F : Addr → Prop} {H : Hp} : Ex (fsh H0 F H) H := fun _ _ h => (fsh_of h).1

def R (C : Ct) (H H' : Hp) : Prop := C.J H' ∧ ∀ a o, H a = some o → ¬ C.F a → H' a = some o
/-- fields of an exception -/
def FsOk (K : PySem.W.Frag) (H : Hp) : List (Str × V) → List (Str × PyData) → Prop
  | [], [] => True
  | (x, v) :: r, (y, d) :: s => x = y ∧ Dp K H v d ∧ FsOk K H r s
  | _, _ => False
structure Ct.Ok (C : Ct) : Prop where
  st : ∀ H H', C.J H → (∀ a, C.F a → H' a = H a) → C.J H'
  ls : ∀ H a, C.J H → C.F a → ∃ xs, H a = some (.lst xs)
  j0 : C.J C.H0
  hE : ∀ cls fs d H' fv, C.Z cls fs → R C C.H0 H' → C.H0 d = none → H' d = some (.xd fv) → FsOk C.K (fsh C.H0 C.F H') fv fs → C.E cls (some d) H'
def SlOk (K : PySem.W.Frag) (M H : Hp) : Option V → Kd → Prop
  | _, .un => True
  | o, .dat d => ∃ v, o = some v ∧ Dp K M v d
  | o, .own l ds => o = some (.ref l) ∧ ∃ vs, H l = some (.lst vs) ∧ DpAll K M vs ds
  | _, .new _ => False
  | o, .k φ => ∃ v, o = some v ∧ φ.ok K M v
structure Rep (C : Ct) (σ : L2.St) (H : Hp) (ρ : List Kd) : Prop where
  ok : C.Ok
  j : C.J H
  old : ∀ a o, C.H0 a = some o → ¬ C.F a → H a = some o
  len : σ.length = ρ.length
  nd : ∀ (i j : Nat) (l : Addr) (ds es : List PyData), ρ[i]? = some (Kd.own l ds) → ρ[j]? = some (Kd.own l es) → i = j
  fr : ∀ l, Own ρ l → C.H0 l = none
  sl : ∀ (i : Nat) k, ρ[i]? = some k → SlOk C.K (msk C ρ H) H (σ.getD i none) k
  pn : ∀ p ∈ C.pn, Dp C.K (msk C ρ H) p.1 p.2
section
variable {C : Ct} {σ : L2.St} {H H' H1 H2 Hs : Hp} {ρ : List Kd} {v : V} {k : Kd} {l : Addr} {d : PyData} {ds : List PyData}
theorem Ct.Ok.al (ok : C.Ok) (j : C.J H) {a : Addr} (f : C.F a) : H a ≠ none := fun z => by
  obtain ⟨xs, e⟩ := ok.ls H a j f
  rw [z] at e
  cases e
theorem Rep.nF (r : Rep C σ H ρ) (o : Own ρ l) : ¬ C.F l := fun f => r.ok.al r.ok.j0 f (r.fr l o)
theorem R.refl (j : C.J H) : R C H H := ⟨j, fun _ _ h _ => h⟩
theorem R.trans (a : R C H H1) (b : R C H1 H2) : R C H H2 := ⟨b.1, fun x o h n => b.2 x o (a.2 x o h n) n⟩
/-- what is free behind was free ahead -/
theorem R.back (ok : C.Ok) (r : R C H H') {a : Addr} (h : H' a = none) : H a = none := by
  cases e : H a with
  | none => rfl
  | some o =>
    by_cases f : C.F a
    · exact absurd h (ok.al r.1 f)
    · rw [r.2 a o e f] at h
      cases h
theorem msk_up (r : R C H H') : Ex (msk C ρ H) (msk C ρ H') := fun a o h => by
  obtain ⟨h1, h2, h3, h4⟩ := msk_of h
  have e := r.2 a o h1 h3
  exact msk_mk e h2 h3 (by rw [e, ← h1]; exact h4)
theorem Rep.up (r : Rep C σ H ρ) (q : R C H H') : Rep C σ H' ρ where
  ok := r.ok
  j := q.1
  old := fun a o h n => q.2 a o (r.old a o h n) n
  len := r.len
  nd := r.nd
  fr := r.fr
  sl := fun i k e => by
    have h := r.sl i k e
    have m := msk_up (ρ := ρ) q
    cases k with
    | un => trivial
    | dat d => exact ⟨h.choose, h.choose_spec.1, Dp.ex m h.choose_spec.2⟩
    | own l ds =>
      obtain ⟨h1, vs, h2, h3⟩ := h
      exact ⟨h1, vs, q.2 _ _ h2 (r.nF ⟨i, ds, e⟩), DpAll.ex m h3⟩
    | new ds => exact h
    | k φ => exact ⟨h.choose, h.choose_spec.1, φ.up m h.choose_spec.2⟩
  pn := fun p hp => Dp.ex (msk_up q) (r.pn p hp)
/-- a value that was made between Hs and H -/
def VOk (C : Ct) (ρ : List Kd) (Hs H : Hp) (v : V) : Kd → Prop
  | .un => True
  | .dat d => Dp C.K (msk C ρ H) v d
  | .own l ds => v = .ref l ∧ Own ρ l ∧ ∃ vs, H l = some (.lst vs) ∧ DpAll C.K (msk C ρ H) vs ds
  | .new ds => ∃ l vs, v = .ref l ∧ Hs l = none ∧ H l = some (.lst vs) ∧ DpAll C.K (del l (msk C ρ H)) vs ds
  | .k φ => φ.ok C.K (msk C ρ H) v
theorem VOk.up (rp : Rep C σ Hs ρ) (h : VOk C ρ Hs H v k) (q : R C H H') : VOk C ρ Hs H' v k := by
  have m := msk_up (ρ := ρ) q
  cases k with
  | un => trivial
  | dat d => exact Dp.ex m h
  | own l ds =>
    obtain ⟨h1, h2, vs, h3, h4⟩ := h
    exact ⟨h1, h2, vs, q.2 _ _ h3 (rp.nF h2), DpAll.ex m h4⟩
  | new ds =>
    obtain ⟨l, vs, h1, h2, h3, h4⟩ := h
    exact ⟨l, vs, h1, h2, q.2 _ _ h3 (fun f => rp.ok.al rp.j f h2), DpAll.ex (del_ex m) h4⟩
  | k φ => exact φ.up m h
theorem VOk.back (ok : C.Ok) (h : VOk C ρ H1 H v k) (q : R C Hs H1) : VOk C ρ Hs H v k := by
  cases k with
  | un => trivial
  | dat d => exact h
  | own l ds => exact h
  | new ds =>
    obtain ⟨l, vs, h1, h2, h3, h4⟩ := h
    exact ⟨l, vs, h1, q.back ok h2, h3, h4⟩
  | k φ => exact h
/-- a new list may be taken as data -/
theorem VOk.frz (rp : Rep C σ Hs ρ) (q : R C Hs H) (h : VOk C ρ Hs H v (.new ds)) : Dp C.K (msk C ρ H) v (.list ds) := by
  obtain ⟨l, vs, rfl, h2, h3, h4⟩ := h
  have hl : msk C ρ H l = some (.lst vs) := msk_mk h3 (fun ⟨i, es, e⟩ => by
      obtain ⟨_, ws, hw, _⟩ := rp.sl i _ e
      rw [h2] at hw
      cases hw) (fun f => rp.ok.al rp.j f h2) (fun z => by
      cases e : C.H0 l with
      | none => exact z.2.1 e
      | some o =>
        by_cases f : C.F l
        · exact rp.ok.al rp.j f h2
        · rw [rp.old l o e f] at h2
          cases h2)
  exact .lst (.inl (.inl hl)) (DpAll.ex del_le h4)

/-! ### stores -/
def plain : Kd → Bool
  | .dat _ => true
  | .k _ => true
  | _ => false
theorem own_set {i : Nat} {k : Kd} {a : Addr} (h : Own (ρ.set i k) a) : (∃ ds, k = .own a ds) ∨ Own ρ a := by
  obtain ⟨j, ds, e⟩ := h
  by_cases hj : i = j
  · subst hj
    by_cases hl : i < ρ.length
    · rw [List.getElem?_set_self hl] at e
      exact .inl ⟨ds, Option.some.inj e⟩
    · rw [List.getElem?_eq_none (by simpa using hl)] at e
      cases e
  · rw [List.getElem?_set_ne hj] at e
    exact .inr ⟨j, ds, e⟩
theorem own_plain {i : Nat} {k : Kd} {a : Addr} (hk : plain k = true) (h : Own (ρ.set i k) a) : Own ρ a := by
  rcases own_set h with ⟨ds, e⟩ | h
  · subst e
    cases hk
  · exact h
theorem msk_plain {i : Nat} (hk : plain k = true) : Ex (msk C ρ H) (msk C (ρ.set i k) H) := fun a o h => by
  obtain ⟨h1, h2, h3, h4⟩ := msk_of h
  exact msk_mk h1 (fun z => h2 (own_plain hk z)) h3 h4
theorem getD_set_ne {i j : Nat} {x : Option V} (h : i ≠ j) : (σ.set i x).getD j none = σ.getD j none := by
  rw [List.getD_eq_getElem?_getD, List.getD_eq_getElem?_getD, List.getElem?_set_ne h]
theorem getD_set_eq {i : Nat} {x : Option V} (h : i < σ.length) : (σ.set i x).getD i none = x := by
  rw [List.getD_eq_getElem?_getD, List.getElem?_set_self h]
  rfl
theorem SlOk.ex {M M' : Hp} {K : PySem.W.Frag} {o : Option V} {k : Kd} (e : Ex M M') (hl : ∀ l ds, k = .own l ds → H' l = H l) (h : SlOk K M H o k) : SlOk K M' H' o k := by
  cases k with
  | un => trivial
  | dat d => exact ⟨h.choose, h.choose_spec.1, Dp.ex e h.choose_spec.2⟩
  | own l ds =>
    obtain ⟨h1, vs, h2, h3⟩ := h
    exact ⟨h1, vs, by rw [hl l ds rfl]; exact h2, DpAll.ex e h3⟩
  | new ds => exact h
  | k φ => exact ⟨h.choose, h.choose_spec.1, φ.up e h.choose_spec.2⟩
theorem Rep.set_plain {i : Nat} (r : Rep C σ H ρ) (hk : plain k = true) (h : VOk C ρ Hs H v k) : Rep C (σ.set i (some v)) H (ρ.set i k) where
  ok := r.ok
  j := r.j
  old := r.old
  len := by rw [List.length_set, List.length_set, r.len]
  nd := fun a b l ds es ha hb => by
    have q : ∀ {a : Nat} {ds}, (ρ.set i k)[a]? = some (Kd.own l ds) → ρ[a]? = some (Kd.own l ds) := fun {a ds} ha => by
      by_cases hj : i = a
      · subst hj
        by_cases hl : i < ρ.length
        · rw [List.getElem?_set_self hl] at ha
          rw [Option.some.inj ha] at hk
          cases hk
        · rw [List.getElem?_eq_none (by simpa using hl)] at ha
          cases ha
      · rw [List.getElem?_set_ne hj] at ha
        exact ha
    exact r.nd a b l ds es (q ha) (q hb)
  fr := fun l o => r.fr l (own_plain hk o)
  sl := fun j k' e => by
    by_cases hj : i = j
    · subst hj
      by_cases hl : i < ρ.length
      · rw [List.getElem?_set_self hl] at e
        obtain rfl := Option.some.inj e
        rw [getD_set_eq (by rw [r.len]; exact hl)]
        cases k with
        | dat d => exact ⟨v, rfl, Dp.ex (msk_plain hk) h⟩
        | k φ => exact ⟨v, rfl, φ.up (msk_plain hk) h⟩
        | un => cases hk
        | own _ _ => cases hk
        | new _ => cases hk
      · rw [List.getElem?_eq_none (by simpa using hl)] at e
        cases e
    · rw [List.getElem?_set_ne hj] at e
      rw [getD_set_ne hj]
      exact (r.sl j k' e).ex (msk_plain hk) fun _ _ _ => rfl
  pn := fun p hp => Dp.ex (msk_plain hk) (r.pn p hp)
theorem Rep.own_at (r : Rep C σ H ρ) {i : Nat} {l : Addr} {ds : List PyData} (e : ρ[i]? = some (Kd.own l ds)) : ∃ vs, H l = some (.lst vs) ∧ DpAll C.K (msk C ρ H) vs ds := by
  obtain ⟨_, h⟩ := r.sl i _ e
  exact h
theorem Rep.own_there (r : Rep C σ H ρ) {l : Addr} (o : Own ρ l) : ∃ vs, H l = some (.lst vs) := by
  obtain ⟨i, ds, e⟩ := o
  obtain ⟨vs, h, _⟩ := r.own_at e
  exact ⟨vs, h⟩
/-- what stood ahead, behind a new list that is the def's own -/
theorem msk_new {i : Nat} (q : R C Hs H) (hl : Hs l = none) : Ex (msk C ρ Hs) (msk C (ρ.set i (.own l ds)) H) := fun a o h => by
  obtain ⟨h1, h2, h3, h4⟩ := msk_of h
  have e := q.2 a o h1 h3
  refine msk_mk e (fun z => ?_) h3 (by rw [e, ← h1]; exact h4)
  rcases own_set z with ⟨es, z⟩ | z
  · injection z with z1 _
    rw [z1, h1] at hl
    cases hl
  · exact h2 z
theorem del_own {i : Nat} : Ex (del l (msk C ρ H)) (msk C (ρ.set i (.own l ds)) H) := fun a o h => by
  obtain ⟨h0, hn⟩ := del_of h
  obtain ⟨h1, h2, h3, h4⟩ := msk_of h0
  refine msk_mk h1 (fun z => ?_) h3 h4
  rcases own_set z with ⟨es, z⟩ | z
  · injection z with z1 _
    exact hn z1.symm
  · exact h2 z
theorem Rep.h0 (r : Rep C σ H ρ) (hl : H l = none) : C.H0 l = none := by
  cases e : C.H0 l with
  | none => rfl
  | some o =>
    by_cases f : C.F l
    · exact absurd hl (r.ok.al r.j f)
    · rw [r.old l o e f] at hl
      cases hl
theorem Rep.set_new {i : Nat} {vs : List V} (r : Rep C σ Hs ρ) (q : R C Hs H) (hl : Hs l = none) (hv : H l = some (.lst vs)) (ha : DpAll C.K (del l (msk C ρ H)) vs ds) :
    Rep C (σ.set i (some (.ref l))) H (ρ.set i (.own l ds)) where
  ok := r.ok
  j := q.1
  old := fun a o h n => q.2 a o (r.old a o h n) n
  len := by rw [List.length_set, List.length_set, r.len]
  nd := fun a b l' ds' es ha hb => by
    have nol : ∀ {a : Nat} {ds'}, ρ[a]? = some (Kd.own l ds') → False := fun {a ds'} e => by
      obtain ⟨ws, hw, _⟩ := r.own_at e
      rw [hl] at hw
      cases hw
    have q2 : ∀ {a : Nat} {ds'}, (ρ.set i (.own l ds))[a]? = some (Kd.own l' ds') → (a = i ∧ l' = l) ∨ (l' ≠ l ∧ ρ[a]? = some (Kd.own l' ds')) := fun {a ds'} ha => by
      by_cases hj : i = a
      · subst hj
        by_cases hl2 : i < ρ.length
        · rw [List.getElem?_set_self hl2] at ha
          have e := Option.some.inj ha
          injection e with e1 e2
          exact .inl ⟨rfl, e1.symm⟩
        · rw [List.getElem?_eq_none (by simpa using hl2)] at ha
          cases ha
      · have hx : ρ[a]? = some (Kd.own l' ds') := by rw [← List.getElem?_set_ne hj]; exact ha
        exact .inr ⟨fun z => nol (z ▸ hx), hx⟩
    rcases q2 ha with ⟨e1, e2⟩ | ⟨n1, e1⟩
    · rcases q2 hb with ⟨e3, e4⟩ | ⟨n3, e3⟩
      · rw [e1, e3]
      · exact absurd e2 n3
    · rcases q2 hb with ⟨e3, e4⟩ | ⟨n3, e3⟩
      · exact absurd e4 n1
      · exact r.nd a b l' ds' es e1 e3
  fr := fun l' o => by
    rcases own_set o with ⟨es, z⟩ | z
    · injection z with z1 _
      rw [← z1]
      exact r.h0 hl
    · exact r.fr l' z
  sl := fun j k' e => by
    by_cases hj : i = j
    · subst hj
      by_cases hl2 : i < ρ.length
      · rw [List.getElem?_set_self hl2] at e
        obtain rfl := Option.some.inj e
        rw [getD_set_eq (by rw [r.len]; exact hl2)]
        exact ⟨rfl, vs, hv, DpAll.ex del_own ha⟩
      · rw [List.getElem?_eq_none (by simpa using hl2)] at e
        cases e
    · rw [List.getElem?_set_ne hj] at e
      rw [getD_set_ne hj]
      have h := r.sl j k' e
      cases k' with
      | un => trivial
      | dat d => exact ⟨h.choose, h.choose_spec.1, Dp.ex (msk_new q hl) h.choose_spec.2⟩
      | own l' ds' =>
        obtain ⟨h1, ws, h2, h3⟩ := h
        exact ⟨h1, ws, q.2 _ _ h2 (r.nF ⟨j, ds', e⟩), DpAll.ex (msk_new q hl) h3⟩
      | new ds => exact h
      | k φ => exact ⟨h.choose, h.choose_spec.1, φ.up (msk_new q hl) h.choose_spec.2⟩
  pn := fun p hp => Dp.ex (msk_new q hl) (r.pn p hp)
/-- an own list is written -/
theorem own_upd {i : Nat} {es : List PyData} {a : Addr} (e : ρ[i]? = some (Kd.own l ds)) (h : Own (ρ.set i (.own l es)) a) : Own ρ a := by
  rcases own_set h with ⟨fs, z⟩ | z
  · injection z with z1 _
    rw [← z1]
    exact ⟨i, ds, e⟩
  · exact z
theorem msk_upd {i : Nat} {es : List PyData} {o : HO} (e : ρ[i]? = some (Kd.own l ds)) : Ex (msk C ρ H) (msk C (ρ.set i (.own l es)) (upd H l o)) := fun a u h => by
  obtain ⟨h1, h2, h3, h4⟩ := msk_of h
  have hn : a ≠ l := fun z => h2 (by rw [z]; exact ⟨i, ds, e⟩)
  have e2 : upd H l o a = some u := by rw [upd_ne hn]; exact h1
  exact msk_mk e2 (fun z => h2 (own_upd e z)) h3 (by rw [e2, ← h1]; exact h4)
theorem Rep.wr {i : Nat} {vs : List V} {es : List PyData} (r : Rep C σ H ρ) (e : ρ[i]? = some (Kd.own l ds)) (ha : DpAll C.K (msk C ρ H) vs es) :
    Rep C σ (upd H l (.lst vs)) (ρ.set i (.own l es)) where
  ok := r.ok
  j := r.ok.st _ _ r.j fun a f => upd_ne fun z => r.nF ⟨i, ds, e⟩ (z ▸ f)
  old := fun a o h n => by
    rw [upd_ne fun z => by
      rw [z, r.fr l ⟨i, ds, e⟩] at h
      cases h]
    exact r.old a o h n
  len := by rw [List.length_set, r.len]
  nd := fun a b l' ds' es' ha hb => by
    have q2 : ∀ {a : Nat} {ds'}, (ρ.set i (.own l es))[a]? = some (Kd.own l' ds') → ∃ ds2, ρ[a]? = some (Kd.own l' ds2) := fun {a ds'} ha => by
      by_cases hj : i = a
      · subst hj
        have hl2 : i < ρ.length := (List.getElem?_eq_some_iff.mp e).1
        rw [List.getElem?_set_self hl2] at ha
        have z := Option.some.inj ha
        injection z with z1 z2
        subst z1
        exact ⟨ds, e⟩
      · rw [List.getElem?_set_ne hj] at ha
        exact ⟨ds', ha⟩
    obtain ⟨d1, h1⟩ := q2 ha
    obtain ⟨d2, h2⟩ := q2 hb
    exact r.nd a b l' d1 d2 h1 h2
  fr := fun l' o => r.fr l' (own_upd e o)
  sl := fun j k' ej => by
    by_cases hj : i = j
    · subst hj
      have hl2 : i < ρ.length := (List.getElem?_eq_some_iff.mp e).1
      rw [List.getElem?_set_self hl2] at ej
      obtain rfl := Option.some.inj ej
      obtain ⟨h1, _⟩ := r.sl i _ e
      exact ⟨h1, vs, upd_same, DpAll.ex (msk_upd e) ha⟩
    · rw [List.getElem?_set_ne hj] at ej
      refine (r.sl j k' ej).ex (msk_upd e) fun l' ds' z => upd_ne fun z2 => ?_
      subst z
      subst z2
      exact hj (r.nd i j _ _ _ e ej)
  pn := fun p hp => Dp.ex (msk_upd e) (r.pn p hp)
/-- a new object -/
theorem R.new {p : Addr} {o : HO} (ok : C.Ok) (j : C.J H) (hp : H p = none) : R C H (upd H p o) :=
  ⟨ok.st _ _ j fun a f => upd_ne fun z => ok.al j f (z ▸ hp), fun a u h _ => by rw [upd_ne (ne_of_none h hp)]; exact h⟩
end
end Mh
namespace Mh
open PySem L2
/-! ### what an expression, a test, an argument list comes to -/
def EB (C : Ct) (te : TE) (ρ : List Kd) (S : Kd → Prop) : Prop :=
  ∀ (σ : L2.St) (H : Hp), Rep C σ H ρ → ∀ Q : VK, (∀ k v H', S k → R C H H' → VOk C ρ H H' v k → Q v H') → te σ H Q
abbrev E1 (C : Ct) (te : TE) (ρ : List Kd) (k : Kd) : Prop := EB C te ρ fun z => z = k
def ET (C : Ct) (tt : TT) (ρ : List Kd) (S : Bool → Prop) : Prop :=
  ∀ (σ : L2.St) (H : Hp), Rep C σ H ρ → ∀ Q : Bool → Hp → Prop, (∀ b H', S b → R C H H' → Q b H') → tt σ H Q
abbrev T1 (C : Ct) (tt : TT) (ρ : List Kd) (b : Bool) : Prop := ET C tt ρ fun z => z = b
inductive VsOk (C : Ct) (ρ : List Kd) (Hs H : Hp) : List V → List Kd → Prop where
  | nil : VsOk C ρ Hs H [] []
  | cons {v : V} {k : Kd} {vs : List V} {ks : List Kd} : VOk C ρ Hs H v k → VsOk C ρ Hs H vs ks → VsOk C ρ Hs H (v :: vs) (k :: ks)
def EA (C : Ct) (ta : TA) (ρ : List Kd) (S : List Kd → Prop) : Prop :=
  ∀ (σ : L2.St) (H : Hp), Rep C σ H ρ → ∀ Q : List V → Hp → Prop, (∀ ks vs H', S ks → R C H H' → VsOk C ρ H H' vs ks → Q vs H') → ta σ H Q
abbrev A1 (C : Ct) (ta : TA) (ρ : List Kd) (ks : List Kd) : Prop := EA C ta ρ fun z => z = ks
section
variable {C : Ct} {σ : L2.St} {H H' H1 H2 Hs : Hp} {ρ : List Kd} {v : V} {k x y z : Kd} {l : Addr} {d e : PyData} {ds es : List PyData} {ta tb te : TE} {tt tu : TT} {i : Nat} {S S1 S2 : Kd → Prop}
theorem EB.imp (h : EB C te ρ S1) (s : ∀ k, S1 k → S2 k) : EB C te ρ S2 := fun σ H r Q q => h σ H r Q fun k v H' a b c => q k v H' (s k a) b c
theorem E1.to (h : E1 C te ρ k) (s : S k) : EB C te ρ S := h.imp fun _ e => e ▸ s
theorem E1.is (h : E1 C te ρ x) (e : x = y) : E1 C te ρ y := e ▸ h
theorem ET.imp {S1 S2 : Bool → Prop} (h : ET C tt ρ S1) (s : ∀ k, S1 k → S2 k) : ET C tt ρ S2 := fun σ H r Q q => h σ H r Q fun b H' a c => q b H' (s b a) c
theorem T1.is {a b : Bool} (h : T1 C tt ρ a) (e : a = b) : T1 C tt ρ b := e ▸ h
def rdK : Kd → Bool
  | .dat _ => true
  | .own _ _ => true
  | .k _ => true
  | _ => false
theorem Rep.var (r : Rep C σ H ρ) (h : ρ[i]? = some k) (hk : rdK k = true) : ∃ v, σ[i]? = some (some v) ∧ VOk C ρ H H v k := by
  have q := r.sl i k h
  have hl : i < σ.length := by
    rw [r.len]
    exact (List.getElem?_eq_some_iff.mp h).1
  have g : ∀ v, σ.getD i none = some v → σ[i]? = some (some v) := fun v e => by
    rw [List.getD_eq_getElem?_getD, List.getElem?_eq_getElem hl] at e
    rw [List.getElem?_eq_getElem hl]
    exact congrArg some e
  cases k with
  | un => cases hk
  | new _ => cases hk
  | dat d =>
    obtain ⟨v, e, p⟩ := q
    exact ⟨v, g v e, p⟩
  | own l ds =>
    obtain ⟨e, vs, p1, p2⟩ := q
    exact ⟨_, g _ e, rfl, ⟨i, ds, h⟩, vs, p1, p2⟩
  | k φ =>
    obtain ⟨v, e, p⟩ := q
    exact ⟨v, g v e, p⟩
theorem e_var (h : ρ[i]? = some k) (hk : rdK k = true := by rfl) : E1 C (tVar i) ρ k := fun σ H r Q q => by
  obtain ⟨v, e, o⟩ := r.var h hk
  exact ⟨v, e, q k v H rfl (R.refl r.j) o⟩
theorem e_c (h : ∀ K H, Dp K H v d) : E1 C (tC v) ρ (.dat d) := fun σ H r Q q => q _ v H rfl (R.refl r.j) (h _ _)
theorem e_int {i : Int} : E1 C (tC (.int i)) ρ (.dat (.int i)) := e_c fun _ _ => .int i
theorem e_str {x : Str} : E1 C (tC (.str x)) ρ (.dat (.str x)) := e_c fun _ _ => .str x
theorem e_bl {b : Bool} : E1 C (tC (.bl b)) ρ (.dat (.bool b)) := e_c fun _ _ => .bl b
theorem e_non : E1 C (tC .non) ρ (.dat .none) := e_c fun _ _ => .non
/-- a new list taken as data -/
theorem e_frz (h : E1 C te ρ (.new ds)) : E1 C te ρ (.dat (.list ds)) := fun σ H r Q q => h σ H r Q fun k v H' s a b => by
  subst s
  exact q _ v H' rfl a (b.frz r a)
def OpK (C : Ct) (ρ : List Kd) (r : R2) (x y : Kd) (S : Kd → Prop) : Prop :=
  ∀ (σ : L2.St) (Hs H : Hp) (v w : V), Rep C σ Hs ρ → R C Hs H → Rep C σ H ρ → VOk C ρ Hs H v x → VOk C ρ Hs H w y → ∀ Q : VK, (∀ k u H', S k → R C H H' → VOk C ρ H H' u k → Q u H') → r v w H Q
theorem OpK.imp {r : R2} (h : OpK C ρ r x y S1) (s : ∀ k, S1 k → S2 k) : OpK C ρ r x y S2 := fun σ Hs H v w a b c d e Q q => h σ Hs H v w a b c d e Q fun k u H' a b c => q k u H' (s k a) b c
theorem e_op {r : R2} (ha : EB C ta ρ S1) (hb : EB C tb ρ S2) (hr : ∀ x y, S1 x → S2 y → OpK C ρ r x y S) : EB C (tOp r ta tb) ρ S := fun σ H rp Q q =>
  ha σ H rp _ fun x v H1 s1 r1 o1 => hb σ H1 (rp.up r1) _ fun y w H2 s2 r2 o2 =>
    hr x y s1 s2 σ H H2 v w rp (r1.trans r2) (rp.up (r1.trans r2)) (o1.up rp r2) (o2.back rp.ok r1) Q fun k u H3 s3 r3 o3 => q k u H3 s3 ((r1.trans r2).trans r3) (o3.back rp.ok (r1.trans r2))
theorem e_op1 {r : R2} (ha : E1 C ta ρ x) (hb : E1 C tb ρ y) (hr : OpK C ρ r x y fun a => a = z) : E1 C (tOp r ta tb) ρ z := e_op ha hb fun a b e1 e2 => by
  subst e1 e2
  exact hr
theorem OpK.inl {r r' : R2} (h : OpK C ρ r x y S) : OpK C ρ (fun a b H Q => r a b H Q ∨ r' a b H Q) x y S := fun σ Hs H v w a b c d e Q q => .inl (h σ Hs H v w a b c d e Q q)
theorem OpK.inr {r r' : R2} (h : OpK C ρ r' x y S) : OpK C ρ (fun a b H Q => r a b H Q ∨ r' a b H Q) x y S := fun σ Hs H v w a b c d e Q q => .inr (h σ Hs H v w a b c d e Q q)
theorem dp_int {K : PySem.W.Frag} {H : Hp} {v : V} {i : Int} (h : Dp K H v (.int i)) : v = .int i := by cases h; rfl
theorem dp_str {K : PySem.W.Frag} {H : Hp} {v : V} {i : Str} (h : Dp K H v (.str i)) : v = .str i := by cases h; rfl
theorem dp_bl {K : PySem.W.Frag} {H : Hp} {v : V} {i : Bool} (h : Dp K H v (.bool i)) : v = .bl i := by cases h; rfl
theorem dp_non {K : PySem.W.Frag} {H : Hp} {v : V} (h : Dp K H v .none) : v = .non := by cases h; rfl
theorem dp_tup {K : PySem.W.Frag} {H : Hp} {v : V} (h : Dp K H v (.tuple ds)) : ∃ a xs, v = .ref a ∧ SqT K H a xs ∧ DpAll K H xs ds := by
  cases h with
  | tup h a => exact ⟨_, _, rfl, h, a⟩
theorem dp_lst {K : PySem.W.Frag} {H : Hp} {v : V} (h : Dp K H v (.list ds)) : ∃ a xs, v = .ref a ∧ SqL K H a xs ∧ DpAll K H xs ds := by
  cases h with
  | lst h a => exact ⟨_, _, rfl, h, a⟩
/-- no change of the heap -/
theorem opk_val {r : R2} {v w u : V} (h : ∀ H (Q : VK), Q u H → r v w H Q) (hx : ∀ K H v', Dp K H v' d → v' = v) (hy : ∀ K H v', Dp K H v' e → v' = w) {f : PyData} (hz : ∀ K H, Dp K H u f) : OpK C ρ r (.dat d) (.dat e) fun a => a = .dat f :=
  fun σ Hs H v' w' _ q rp o1 o2 Q k => by
    obtain rfl := hx _ _ _ o1
    obtain rfl := hy _ _ _ o2
    exact h H Q (k _ u H rfl (R.refl q.1) (hz _ _))
theorem opk_i0 {g : Int → Int → V} {i j : Int} {f : PyData} (hz : ∀ K H, Dp K H (g i j) f) : OpK C ρ (rI0 g) (.dat (.int i)) (.dat (.int j)) fun a => a = .dat f :=
  opk_val (v := .int i) (w := .int j) (u := g i j) (fun H Q q => ⟨i, j, rfl, rfl, q⟩) (fun _ _ _ h => dp_int h) (fun _ _ _ h => dp_int h) hz
theorem opk_i {P : Int → Int → Prop} {g : Int → Int → V} {i j : Int} {f : PyData} (hc : P i j) (hz : ∀ K H, Dp K H (g i j) f) : OpK C ρ (rI P g) (.dat (.int i)) (.dat (.int j)) fun a => a = .dat f :=
  opk_val (v := .int i) (w := .int j) (u := g i j) (fun H Q q => ⟨i, j, rfl, rfl, hc, q⟩) (fun _ _ _ h => dp_int h) (fun _ _ _ h => dp_int h) hz
/-! ### tuples, lists made -/
theorem Rep.newT {p : Addr} {xs : List V} (r : Rep C σ H ρ) (hp : H p = none) (ha : DpAll C.K (msk C ρ H) xs ds) : R C H (upd H p (.tup xs)) ∧ Dp C.K (msk C ρ (upd H p (.tup xs))) (.ref p) (.tuple ds) := by
  have q := R.new (o := .tup xs) r.ok r.j hp
  refine ⟨q, .tup (.inl (.inl (msk_mk upd_same (fun ⟨i, es, e⟩ => ?_) (fun f => r.ok.al r.j f hp) fun z => ?_))) (DpAll.ex (msk_up q) ha)⟩
  · obtain ⟨vs, h, _⟩ := r.own_at e
    rw [hp] at h
    cases h
  · have h := z.2.2
    rw [upd_same] at h
    exact h
theorem Rep.newL {p : Addr} {xs : List V} (r : Rep C σ H ρ) (hp : H p = none) (ha : DpAll C.K (msk C ρ H) xs ds) : R C H (upd H p (.lst xs)) ∧ VOk C ρ H (upd H p (.lst xs)) (.ref p) (.new ds) := by
  have q := R.new (o := .lst xs) r.ok r.j hp
  refine ⟨q, p, xs, rfl, hp, upd_same, DpAll.ex (fun a o h => del_mk (msk_up q a o h) fun z => ?_) ha⟩
  have e := (msk_of h).1
  rw [z, hp] at e
  cases e
def datL : List Kd → Option (List PyData)
  | [] => some []
  | .dat d :: r => (datL r).map (d :: ·)
  | _ => none
theorem VsOk.dat : ∀ {vs : List V} {ks : List Kd} {ds : List PyData}, VsOk C ρ Hs H vs ks → datL ks = some ds → DpAll C.K (msk C ρ H) vs ds
  | _, _, _, .nil, e => by
    cases e
    exact .nil
  | _, _, _, .cons (k := k) (ks := ks) h a, e => by
    cases k with
    | dat d =>
      cases q : datL ks with
      | none => simp [datL, q] at e
      | some r =>
        simp [datL, q] at e
        subst e
        exact .cons h (VsOk.dat a q)
    | _ => simp [datL] at e
theorem VsOk.up : ∀ {vs : List V} {ks : List Kd}, Rep C σ Hs ρ → VsOk C ρ Hs H vs ks → R C H H' → VsOk C ρ Hs H' vs ks
  | _, _, _, .nil, _ => .nil
  | _, _, r, .cons h a, q => .cons (h.up r q) (VsOk.up r a q)
theorem VsOk.back : ∀ {vs : List V} {ks : List Kd}, C.Ok → VsOk C ρ H1 H vs ks → R C Hs H1 → VsOk C ρ Hs H vs ks
  | _, _, _, .nil, _ => .nil
  | _, _, r, .cons h a, q => .cons (h.back r q) (VsOk.back r a q)
theorem a_nil : A1 C tNil ρ [] := fun σ H r Q q => q _ [] H rfl (R.refl r.j) .nil
theorem a_consS {t : TA} {P1 P : List Kd → Prop} (h : EB C te ρ S1) (hr : EA C t ρ P1) (s : ∀ k ks, S1 k → P1 ks → P (k :: ks)) : EA C (tCons te t) ρ P := fun σ H rp Q q =>
  h σ H rp _ fun k v H1 s1 r1 o1 => hr σ H1 (rp.up r1) _ fun ks vs H2 s2 r2 o2 => q _ _ H2 (s k ks s1 s2) (r1.trans r2) (.cons (o1.up rp r2) (o2.back rp.ok r1))
theorem a_cons {t : TA} {ks : List Kd} (h : E1 C te ρ k) (hr : A1 C t ρ ks) : A1 C (tCons te t) ρ (k :: ks) := a_consS h hr fun _ _ a b => by rw [a, b]
theorem e_tupS {t : TA} {P : List Kd → Prop} (h : EA C t ρ P) (s : ∀ ks, P ks → ∃ ds, datL ks = some ds ∧ ds.length ≤ sizeLine ∧ S (.dat (.tuple ds))) : EB C (tTup t) ρ S := fun σ H rp Q q =>
  h σ H rp _ fun ks vs H1 s1 r1 o1 => by
    obtain ⟨ds, e, hz, s2⟩ := s ks s1
    have ha := o1.dat e
    refine ⟨by rw [ha.length]; exact hz, fun p hp => ?_⟩
    obtain ⟨q1, q2⟩ := (rp.up r1).newT hp ha
    exact q _ _ _ s2 (r1.trans q1) q2
theorem e_tup {t : TA} {ks : List Kd} (h : A1 C t ρ ks) (e : datL ks = some ds) (hz : ds.length ≤ sizeLine := by first | decide | (dsimp only [List.length]; decide)) : E1 C (tTup t) ρ (.dat (.tuple ds)) := e_tupS h fun ks' e' => ⟨ds, by rw [e', e], hz, rfl⟩
theorem e_lstS {t : TA} {P : List Kd → Prop} (h : EA C t ρ P) (s : ∀ ks, P ks → ∃ ds, datL ks = some ds ∧ ds.length ≤ sizeLine ∧ S (.new ds)) : EB C (tLst t) ρ S := fun σ H rp Q q =>
  h σ H rp _ fun ks vs H1 s1 r1 o1 => by
    obtain ⟨ds, e, hz, s2⟩ := s ks s1
    have ha := o1.dat e
    refine ⟨by rw [ha.length]; exact hz, fun p hp => ?_⟩
    obtain ⟨q1, q2⟩ := (rp.up r1).newL hp ha
    exact q _ _ _ s2 (r1.trans q1) (q2.back rp.ok r1)
theorem e_lst {t : TA} {ks : List Kd} (h : A1 C t ρ ks) (e : datL ks = some ds) (hz : ds.length ≤ sizeLine := by first | decide | (dsimp only [List.length]; decide)) : E1 C (tLst t) ρ (.new ds) := e_lstS h fun ks' e' => ⟨ds, by rw [e', e], hz, rfl⟩
/-! ### what is read as a sequence -/
def seqK : Kd → Option (List PyData)
  | .dat (.list ds) => some ds
  | .dat (.tuple ds) => some ds
  | .own _ ds => some ds
  | .new ds => some ds
  | _ => none
theorem VOk.seq (h : VOk C ρ Hs H v k) (e : seqK k = some ds) : ∃ a xs, v = .ref a ∧ (SqL C.K H a xs ∨ SqT C.K H a xs) ∧ DpAll C.K (msk C ρ H) xs ds := by
  cases k with
  | dat d =>
    cases d with
    | list es =>
      cases e
      obtain ⟨a, xs, rfl, h1, h2⟩ := dp_lst h
      exact ⟨a, xs, rfl, .inl (Ext.l msk_le h1), h2⟩
    | tuple es =>
      cases e
      obtain ⟨a, xs, rfl, h1, h2⟩ := dp_tup h
      exact ⟨a, xs, rfl, .inr (Ext.t msk_le h1), h2⟩
    | _ => cases e
  | own l es =>
    cases e
    obtain ⟨rfl, _, vs, h1, h2⟩ := h
    exact ⟨l, vs, rfl, .inl (.inl (.inl h1)), h2⟩
  | new es =>
    cases e
    obtain ⟨l, vs, rfl, _, h1, h2⟩ := h
    exact ⟨l, vs, rfl, .inl (.inl (.inl h1)), DpAll.ex del_le h2⟩
  | _ => cases e
/-- a list that stands in the heap by itself (made here, or the def's own) -/
def lstK : Kd → Option (List PyData)
  | .own _ ds => some ds
  | .new ds => some ds
  | _ => none
theorem VOk.lst (h : VOk C ρ Hs H v k) (e : lstK k = some ds) : ∃ a xs, v = .ref a ∧ H a = some (.lst xs) ∧ DpAll C.K (msk C ρ H) xs ds := by
  cases k with
  | own l es =>
    cases e
    obtain ⟨rfl, _, vs, h1, h2⟩ := h
    exact ⟨l, vs, rfl, h1, h2⟩
  | new es =>
    cases e
    obtain ⟨l, vs, rfl, _, h1, h2⟩ := h
    exact ⟨l, vs, rfl, h1, DpAll.ex del_le h2⟩
  | _ => cases e
/-- a call of a built-in -/
def CbK (C : Ct) (ρ : List Kd) (r : List V → Hp → VK → Prop) (ks : List Kd) (S : Kd → Prop) : Prop :=
  ∀ (σ : L2.St) (Hs H : Hp) (vs : List V), Rep C σ Hs ρ → R C Hs H → Rep C σ H ρ → VsOk C ρ Hs H vs ks → ∀ Q : VK, (∀ k u H', S k → R C H H' → VOk C ρ H H' u k → Q u H') → r vs H Q
theorem e_cb {r : List V → Hp → VK → Prop} {t : TA} {P : List Kd → Prop} (h : EA C t ρ P) (hr : ∀ ks, P ks → CbK C ρ r ks S) : EB C (tCB r t) ρ S := fun σ H rp Q q =>
  h σ H rp _ fun ks vs H1 s1 r1 o1 => hr ks s1 σ H H1 vs rp r1 (rp.up r1) o1 Q fun k u H2 s2 r2 o2 => q k u H2 s2 (r1.trans r2) (o2.back rp.ok r1)
theorem e_cb1 {r : List V → Hp → VK → Prop} {t : TA} {ks : List Kd} (h : A1 C t ρ ks) (hr : CbK C ρ r ks fun a => a = z) : E1 C (tCB r t) ρ z := e_cb h fun ks' e => by
  subst e
  exact hr
theorem VsOk.one (h : VsOk C ρ Hs H vs [k]) : ∃ v, vs = [v] ∧ VOk C ρ Hs H v k := by
  cases h with
  | cons a b =>
    cases b
    exact ⟨_, rfl, a⟩
theorem VsOk.two (h : VsOk C ρ Hs H vs [x, y]) : ∃ v w, vs = [v, w] ∧ VOk C ρ Hs H v x ∧ VOk C ρ Hs H w y := by
  cases h with
  | cons a b =>
    cases b with
    | cons b c =>
      cases c
      exact ⟨_, _, rfl, a, b⟩
end
end Mh
namespace Mh
open PySem L2 TL
/-! ### operators for several types at once -/
abbrev rAddI : R2 := rI0 fun i j => .int (i + j)
abbrev rSubI : R2 := rI0 fun i j => .int (i - j)
def rAddT : R2 := fun x y H Q => ∃ i j, x = .str i ∧ y = .str j ∧ i.length + j.length ≤ sizeLine ∧ Q (.str (i ++ j)) H
def rAddP (K : PySem.W.Frag) : R2 := fun x y H Q => rAddI x y H Q ∨ (rAddT x y H Q ∨ (rCat x y H Q ∨ rCatA K x y H Q))
theorem op_addP {X : Cx} : OpR X (binaryOp .Add) (rAddP X.K) := op_add.or ((show OpR X (binaryOp .Add) rAddT from op_add_str).or (op_cat.or op_catA))
abbrev rMulI : R2 := rI CMul fun i j => .int (i * j)
abbrev rDivI : R2 := rI CDiv fun i j => .int (i / j)
abbrev rModI : R2 := rI (fun _ j => 0 < j) fun i j => .int (i % j)
abbrev rPowI : R2 := rI CPow fun i j => .int (i ^ j.toNat)
def rMulP (K : PySem.W.Frag) : R2 := fun x y H Q => rMulI x y H Q ∨ (rRep x y H Q ∨ rRepT K x y H Q)
theorem op_mulP {X : Cx} : OpR X (binaryOp .Mult) (rMulP X.K) := op_mul.or (op_rep.or op_repT)
abbrev rLtI : R2 := rI0 fun i j => .bl (decide (i < j))
abbrev rLeI : R2 := rI0 fun i j => .bl (decide (i ≤ j))
abbrev rGtI : R2 := rI0 fun i j => .bl (decide (j < i))
abbrev rGeI : R2 := rI0 fun i j => .bl (decide (j ≤ i))
def rSlP (K : PySem.W.Frag) : V → Option Int → Option Int → Hp → VK → Prop := fun x lo hi H Q => rSlL K x lo hi H Q ∨ (rSlA K x lo hi H Q ∨ rSlS x lo hi H Q)
theorem sl_P {X : Cx} : SlR X (rSlP X.K) := sl_list.or (sl_tupA.or sl_str)
def rIntP : List V → Hp → VK → Prop := fun xs H Q => ((∃ i, xs = [.int i] ∧ Q (.int i) H) ∨ ∃ k, xs = [.bl k] ∧ Q (.int (if k then 1 else 0)) H) ∨ ∃ a n, xs = [.str a] ∧ PySem.intText? a = some n ∧ a.length ≤ 640 ∧ Q (.int n) H
theorem call_intP {X : Cx} : CallR X (.type "int") rIntP := CallR.or call_int1 call_int_str
def rStrP : List V → Hp → VK → Prop := fun xs H Q => (∃ i, xs = [.int i] ∧ i.natAbs.log2 < 1920 ∧ Q (.str (toString i)) H) ∨ ∃ a, xs = [.str a] ∧ Q (.str a) H
theorem call_strP {X : Cx} : CallR X (.type "str") rStrP := CallR.or call_str_int SkE.call_str_str
def rTupP (K : PySem.W.Frag) : List V → Hp → VK → Prop := fun xs H Q => ∃ p ys, xs = [.ref p] ∧ ((SqL K H p ys ∧ ∀ l, H l = none → Q (.ref l) (upd H l (.tup ys))) ∨ (SqT K H p ys ∧ Q (.ref p) H))
theorem call_tupP {X : Cx} : CallR X (.type "tuple") (rTupP X.K) := call_tuple_of
def rLstP (K : PySem.W.Frag) : List V → Hp → VK → Prop := fun xs H Q => ∃ p ys, xs = [.ref p] ∧ (SqL K H p ys ∨ SqT K H p ys) ∧ ∀ l, H l = none → Q (.ref l) (upd H l (.lst ys))
theorem call_lstP {X : Cx} : CallR X (.type "list") (rLstP X.K) := call_list_of
def rLenP (K : PySem.W.Frag) : List V → Hp → VK → Prop := fun xs H Q => ∃ x n, xs = [x] ∧ LenV K x H n ∧ Q (.int n) H
theorem call_lenP {X : Cx} : CallR X (.builtin "len") (rLenP X.K) := call_len
def rMin2 : List V → Hp → VK → Prop := fun xs H Q => ∃ i j, xs = [.int i, .int j] ∧ Q (.int (if j < i then j else i)) H
theorem call_minP {X : Cx} (hc : X.calm = true) : CallR X (.builtin "min") rMin2 := call_min2 hc
def rMax2 : List V → Hp → VK → Prop := fun xs H Q => ∃ i j, xs = [.int i, .int j] ∧ Q (.int (if j > i then j else i)) H
theorem call_maxP {X : Cx} (hc : X.calm = true) : CallR X (.builtin "max") rMax2 := call_max2 hc
def rAbs : List V → Hp → VK → Prop := fun xs H Q => ∃ i, xs = [.int i] ∧ Q (.int (if i < 0 then -i else i)) H
theorem call_absP {X : Cx} : CallR X (.builtin "abs") rAbs := call_abs
def rJoin (K : PySem.W.Frag) : V → List V → Hp → VK → Prop := fun x xs H Q => ∃ a p, ∃ ys : List Str, x = .str a ∧ xs = [.ref p] ∧ (SqL K H p (ys.map V.str) ∨ SqT K H p (ys.map V.str)) ∧ (ys.map (·.length)).sum + ys.length * a.length ≤ 16777216 ∧ Q (.str (Txt.join a ys)) H
theorem mt_joinP {X : Cx} : MtR X "str.join" (rJoin X.K) := mt_join
def rSplit : V → List V → Hp → VK → Prop := fun x xs H Q => ∃ a b, x = .str a ∧ xs = [.str b] ∧ (b.length == 0) = false ∧ a.length + 2 ≤ sizeLine ∧ rNewStrs (Txt.split a b) H Q
theorem mt_splitP {X : Cx} : MtR X "str.split" rSplit := mt_split
def rEqP (K : PySem.W.Frag) : R2 := fun x y H Q => rEq x y H Q ∨ rEqD K x y H Q
theorem op_eqP {X : Cx} (hu : X.A.units + 64 < cLine) : OpR X (compareOp .Eq) (rEqP X.K) := op_eq.or (op_eqD hu)
def rNeP (K : PySem.W.Frag) : R2 := fun x y H Q => rNe x y H Q ∨ rNeD K x y H Q
theorem op_neP {X : Cx} (hu : X.A.units + 64 < cLine) : OpR X (compareOp .NotEq) (rNeP X.K) := op_ne.or (op_neD hu)
/-! ### what is walked: a list, a tuple, a text -/
def iAny (K : PySem.W.Frag) (tl : TE) : TI := fun σ H W => tl σ H fun x H1 => (∃ a, x = .ref a ∧ (∃ xs, SqL K H1 a xs) ∧ W (Itl K a) H1) ∨ ((∃ a, x = .ref a ∧ (∃ xs, SqT K H1 a xs) ∧ W (Itt K a) H1) ∨ ∃ z, x = .str z ∧ W (Its z) H1)
section
variable {X : Cx} {tg lx : Expr} {tl : TE}
theorem pi_any (hl : PE X lx tl) : PI X tg lx (iAny X.K tl) := ⟨fun pins s σ H W I hw => by
  refine thn (hl.run pins s σ H _ I hw) fun val st ⟨xv, Hn, In, rn, alt⟩ => ?_
  rcases alt with ⟨adr, rfl, ⟨xs, hx⟩, fin⟩ | ⟨adr, rfl, ⟨xs, hx⟩, fin⟩ | ⟨z, rfl, fin⟩
  · cases rn
    obtain ⟨items, _, plain, _⟩ := In.list hx
    exact wpAny_pyIter_list plain.isList (pi_one (tk := st.toks) In _ (turn_list adr _) ⟨_, Heap.get?_push_size _ rfl, rfl, rfl⟩ fin)
  · cases rn
    obtain ⟨items, _, plain, _⟩ := In.tuple hx
    exact wpAny_pyIter_tuple (show st.heap.IsTuple adr items.toArray from plain) (pi_one (tk := st.toks) In _ (turn_tuple adr _) ⟨_, Heap.get?_push_size _ rfl, rfl, rfl⟩ fin)
  · obtain ⟨tok, rfl⟩ := rn
    cases small : z.cps.all (· < 128) with
    | false => exact wpAny_pyIter_wide small (pi_one (tk := st.toks) In _ (turn_str _ z tok "str_iterator" (.inr rfl)) ⟨_, Heap.get?_push_size _ rfl, rfl, rfl⟩ fin)
    | true => exact wpAny_pyIter_ascii small (pi_one (tk := st.toks) In _ (turn_str _ z tok "str_ascii_iterator" (.inl rfl)) ⟨_, Heap.get?_push_size _ rfl, rfl, rfl⟩ fin)⟩
end
section
variable {C : Ct} {σ : L2.St} {H H' H1 H2 Hs : Hp} {ρ : List Kd} {v : V} {k x y z : Kd} {l : Addr} {d e : PyData} {ds es : List PyData} {ta tb te : TE} {tt tu : TT} {i : Nat} {S S1 S2 : Kd → Prop}
/-! ### sums -/
theorem k_add_i {i j : Int} : OpK C ρ (rAddP C.K) (.dat (.int i)) (.dat (.int j)) fun a => a = .dat (.int (i + j)) := OpK.inl (opk_i0 fun _ _ => .int _)
theorem k_sub_i {i j : Int} : OpK C ρ rSubI (.dat (.int i)) (.dat (.int j)) fun a => a = .dat (.int (i - j)) := opk_i0 fun _ _ => .int _
theorem k_add_s {a b : Str} (h : a.length + b.length ≤ sizeLine) : OpK C ρ (rAddP C.K) (.dat (.str a)) (.dat (.str b)) fun z => z = .dat (.str (a ++ b)) :=
  OpK.inr (OpK.inl (opk_val (v := .str a) (w := .str b) (u := .str (a ++ b)) (fun H Q q => ⟨a, b, rfl, rfl, h, q⟩) (fun _ _ _ h => dp_str h) (fun _ _ _ h => dp_str h) fun _ _ => .str _))
theorem k_add_l (hx : lstK x = some ds) (hy : lstK y = some es) (h : ds.length + es.length ≤ sizeLine) : OpK C ρ (rAddP C.K) x y fun z => z = .new (ds ++ es) :=
  OpK.inr (OpK.inr (OpK.inl fun σ Hs H v w rs q r o1 o2 Q k => by
    obtain ⟨a, xs, rfl, h1, p1⟩ := o1.lst hx
    obtain ⟨b, ys, rfl, h2, p2⟩ := o2.lst hy
    refine ⟨a, b, xs, ys, rfl, rfl, h1, h2, by rw [p1.length, p2.length]; exact h, fun p hp => ?_⟩
    obtain ⟨q1, q2⟩ := r.newL hp (p1.append p2)
    exact k _ _ _ rfl q1 q2))
theorem k_add_t (h : ds.length + es.length ≤ sizeLine) : OpK C ρ (rAddP C.K) (.dat (.tuple ds)) (.dat (.tuple es)) fun z => z = .dat (.tuple (ds ++ es)) :=
  OpK.inr (OpK.inr (OpK.inr fun σ Hs H v w rs q r o1 o2 Q k => by
    obtain ⟨a, xs, rfl, h1, p1⟩ := dp_tup o1
    obtain ⟨b, ys, rfl, h2, p2⟩ := dp_tup o2
    refine ⟨a, b, xs, ys, rfl, rfl, Ext.t msk_le h1, Ext.t msk_le h2, by rw [p1.length, p2.length]; exact h, fun e => ?_, fun _ e => ?_, fun _ _ p hp => ?_⟩
    · subst e
      cases p1
      exact k _ _ _ rfl (R.refl r.j) o2
    · subst e
      cases p2
      exact k _ _ _ rfl (R.refl r.j) (by rw [List.append_nil]; exact o1)
    · obtain ⟨q1, q2⟩ := r.newT hp (p1.append p2)
      exact k _ _ _ rfl q1 q2))
theorem k_mul_i {i j : Int} (h : CMul i j) : OpK C ρ (rMulP C.K) (.dat (.int i)) (.dat (.int j)) fun a => a = .dat (.int (i * j)) := OpK.inl (opk_i h fun _ _ => .int _)
theorem k_mulI {i j : Int} (h : CMul i j) : OpK C ρ rMulI (.dat (.int i)) (.dat (.int j)) fun a => a = .dat (.int (i * j)) := opk_i h fun _ _ => .int _
theorem k_div_i {i j : Int} (h : 0 < j ∧ j < 1073741824) : OpK C ρ rDivI (.dat (.int i)) (.dat (.int j)) fun a => a = .dat (.int (i / j)) := opk_i h fun _ _ => .int _
theorem k_mod_i {i j : Int} (h : 0 < j) : OpK C ρ rModI (.dat (.int i)) (.dat (.int j)) fun a => a = .dat (.int (i % j)) := opk_i h fun _ _ => .int _
theorem k_pow_i {i j : Int} (h : CPow i j) : OpK C ρ rPowI (.dat (.int i)) (.dat (.int j)) fun a => a = .dat (.int (i ^ j.toNat)) := opk_i h fun _ _ => .int _
theorem k_lt {i j : Int} : OpK C ρ rLtI (.dat (.int i)) (.dat (.int j)) fun a => a = .dat (.bool (decide (i < j))) := opk_i0 fun _ _ => .bl _
theorem k_le {i j : Int} : OpK C ρ rLeI (.dat (.int i)) (.dat (.int j)) fun a => a = .dat (.bool (decide (i ≤ j))) := opk_i0 fun _ _ => .bl _
theorem k_gt {i j : Int} : OpK C ρ rGtI (.dat (.int i)) (.dat (.int j)) fun a => a = .dat (.bool (decide (j < i))) := opk_i0 fun _ _ => .bl _
theorem k_ge {i j : Int} : OpK C ρ rGeI (.dat (.int i)) (.dat (.int j)) fun a => a = .dat (.bool (decide (j ≤ i))) := opk_i0 fun _ _ => .bl _
/-! ### equal or not -/
def datK : Kd → Option PyData
  | .dat d => some d
  | .own _ ds => some (.list ds)
  | .new ds => some (.list ds)
  | _ => none
theorem VOk.dp (h : VOk C ρ Hs H v k) (e : datK k = some d) : Dp C.K H v d := by
  cases k with
  | dat d' =>
    cases e
    exact Dp.ex msk_le h
  | own l es =>
    cases e
    obtain ⟨rfl, _, vs, h1, h2⟩ := h
    exact .lst (.inl (.inl h1)) (DpAll.ex msk_le h2)
  | new es =>
    cases e
    obtain ⟨l, vs, rfl, _, h1, h2⟩ := h
    exact .lst (.inl (.inl h1)) (DpAll.ex (Ext.trans del_le msk_le) h2)
  | _ => cases e
theorem k_eq (hx : datK x = some d) (hy : datK y = some e) (s1 : SeqAt.shaped d = true) (s2 : SeqAt.shaped e = true) : OpK C ρ (rEqP C.K) x y fun a => a = .dat (.bool (PyData.eqv d e)) :=
  OpK.inr fun σ Hs H v w _ q r o1 o2 Q k => ⟨d, e, (o1.dp hx).kit (SeqAt.canLay_of_shaped s1), (o2.dp hy).kit (SeqAt.canLay_of_shaped s2), s1, s2, k _ _ _ rfl (R.refl r.j) (.bl _)⟩
theorem k_ne (hx : datK x = some d) (hy : datK y = some e) (s1 : SeqAt.shaped d = true) (s2 : SeqAt.shaped e = true) : OpK C ρ (rNeP C.K) x y fun a => a = .dat (.bool (!PyData.eqv d e)) :=
  OpK.inr fun σ Hs H v w _ q r o1 o2 Q k => ⟨d, e, (o1.dp hx).kit (SeqAt.canLay_of_shaped s1), (o2.dp hy).kit (SeqAt.canLay_of_shaped s2), s1, s2, k _ _ _ rfl (R.refl r.j) (.bl _)⟩
theorem dec_i (i j : Int) : decide (V.int i = V.int j) = decide (i = j) := decide_eq_decide.mpr ⟨fun h => by injection h, fun h => by rw [h]⟩
theorem dec_s (i j : Str) : decide (V.str i = V.str j) = decide (i = j) := decide_eq_decide.mpr ⟨fun h => by injection h, fun h => by rw [h]⟩
theorem k_eq_i {i j : Int} : OpK C ρ (rEqP C.K) (.dat (.int i)) (.dat (.int j)) fun a => a = .dat (.bool (decide (i = j))) :=
  OpK.inl (opk_val (v := .int i) (w := .int j) (u := .bl (decide (i = j))) (fun H Q q => ⟨rfl, by rw [dec_i]; exact q⟩) (fun _ _ _ h => dp_int h) (fun _ _ _ h => dp_int h) fun _ _ => .bl _)
theorem k_ne_i {i j : Int} : OpK C ρ (rNeP C.K) (.dat (.int i)) (.dat (.int j)) fun a => a = .dat (.bool (!decide (i = j))) :=
  OpK.inl (opk_val (v := .int i) (w := .int j) (u := .bl (!decide (i = j))) (fun H Q q => ⟨rfl, by rw [dec_i]; exact q⟩) (fun _ _ _ h => dp_int h) (fun _ _ _ h => dp_int h) fun _ _ => .bl _)
theorem k_eq_s {i j : Str} : OpK C ρ (rEqP C.K) (.dat (.str i)) (.dat (.str j)) fun a => a = .dat (.bool (decide (i = j))) :=
  OpK.inl (opk_val (v := .str i) (w := .str j) (u := .bl (decide (i = j))) (fun H Q q => ⟨rfl, by rw [dec_s]; exact q⟩) (fun _ _ _ h => dp_str h) (fun _ _ _ h => dp_str h) fun _ _ => .bl _)
theorem k_ne_s {i j : Str} : OpK C ρ (rNeP C.K) (.dat (.str i)) (.dat (.str j)) fun a => a = .dat (.bool (!decide (i = j))) :=
  OpK.inl (opk_val (v := .str i) (w := .str j) (u := .bl (!decide (i = j))) (fun H Q q => ⟨rfl, by rw [dec_s]; exact q⟩) (fun _ _ _ h => dp_str h) (fun _ _ _ h => dp_str h) fun _ _ => .bl _)
def isNon : PyData → Bool
  | .none => true
  | _ => false
theorem dp_isN {K : PySem.W.Frag} (h : Dp K H v d) : decide (v = .non) = isNon d := by
  cases h <;> simp [isNon]
theorem k_isN : OpK C ρ rIsN (.dat d) (.dat .none) fun a => a = .dat (.bool (isNon d)) := fun σ Hs H v w _ q r o1 o2 Q k => by
  obtain rfl := dp_non o2
  exact ⟨rfl, k _ _ _ rfl (R.refl r.j) (by rw [dp_isN o1]; exact .bl _)⟩
theorem k_notN : OpK C ρ rNotN (.dat d) (.dat .none) fun a => a = .dat (.bool (!isNon d)) := fun σ Hs H v w _ q r o1 o2 Q k => by
  obtain rfl := dp_non o2
  exact ⟨rfl, k _ _ _ rfl (R.refl r.j) (by rw [dp_isN o1]; exact .bl _)⟩
/-- one sign in a text -/
theorem k_inS {c : Nat} {w : Str} : OpK C ρ rInS (.dat (.str ⟨#[c]⟩)) (.dat (.str w)) fun a => a = .dat (.bool (decide (c ∈ tl w))) :=
  opk_val (v := .str ⟨#[c]⟩) (w := .str w) (u := .bl _) (fun H Q q => ⟨c, w, rfl, rfl, q⟩) (fun _ _ _ h => dp_str h) (fun _ _ _ h => dp_str h) fun _ _ => .bl _
theorem k_ninS {c : Nat} {w : Str} : OpK C ρ rNotInS (.dat (.str ⟨#[c]⟩)) (.dat (.str w)) fun a => a = .dat (.bool (!decide (c ∈ tl w))) :=
  opk_val (v := .str ⟨#[c]⟩) (w := .str w) (u := .bl _) (fun H Q q => ⟨c, w, rfl, rfl, q⟩) (fun _ _ _ h => dp_str h) (fun _ _ _ h => dp_str h) fun _ _ => .bl _
theorem k_inD (hx : datK x = some d) (hy : datK y = some (.list es)) (s1 : SeqAt.shaped d = true) (s2 : SeqAt.shaped (.list es) = true) : OpK C ρ (rInD C.K) x y fun a => a = .dat (.bool (es.any fun z => PyData.eqv z d)) :=
  fun σ Hs H v w _ q r o1 o2 Q k => ⟨d, es, (o1.dp hx).kit (SeqAt.canLay_of_shaped s1), (o2.dp hy).kit (SeqAt.canLay_of_shaped s2), s1, s2, k _ _ _ rfl (R.refl r.j) (.bl _)⟩
/-! ### places, parts -/
theorem VOk.atD (r : Rep C σ H ρ) (h : VOk C ρ Hs H v k) (e : seqK k = some ds) {i : Int} (he : atI ds i = some d) : ∃ a xs u, v = .ref a ∧ (SqL C.K H a xs ∨ SqT C.K H a xs) ∧ atI xs i = some u ∧ Dp C.K (msk C ρ H) u d := by
  obtain ⟨a, xs, rfl, h1, h2⟩ := h.seq e
  have hl := h2.length
  unfold atI at he
  cases q : ixN ds.length i with
  | none =>
    rw [q] at he
    cases he
  | some j =>
    rw [q] at he
    obtain ⟨u, h3, h4⟩ := h2.getd (i := j) he
    refine ⟨a, xs, u, rfl, h1, ?_, h4⟩
    unfold atI
    rw [hl, q]
    exact h3
theorem k_ix {i : Int} (e : seqK x = some ds) (he : atI ds i = some d) : OpK C ρ (rIx C.K) x (.dat (.int i)) fun a => a = .dat d := fun σ Hs H v w _ q r o1 o2 Q k => by
  obtain rfl := dp_int o2
  obtain ⟨a, xs, u, rfl, h1, h2, h3⟩ := o1.atD r e he
  rcases h1 with h1 | h1
  · exact .inl ⟨a, xs, i, u, rfl, rfl, h1, h2, k _ _ _ rfl (R.refl r.j) h3⟩
  · exact .inr (.inl ⟨a, xs, i, u, rfl, rfl, h1, h2, k _ _ _ rfl (R.refl r.j) h3⟩)
theorem k_ixS {z : Str} {i : Int} {c : Nat} (hz : z.length ≤ sizeLine) (he : atI (tl z) i = some c) : OpK C ρ (rIx C.K) (.dat (.str z)) (.dat (.int i)) fun a => a = .dat (.str ⟨#[c]⟩) := fun σ Hs H v w _ q r o1 o2 Q k => by
  obtain rfl := dp_int o2
  obtain rfl := dp_str o1
  exact .inr (.inr ⟨z, i, c, rfl, rfl, hz, he, k _ _ _ rfl (R.refl r.j) (.str _)⟩)
def EO (C : Ct) (to : TO) (ρ : List Kd) (o : Option Int) : Prop :=
  ∀ (σ : L2.St) (H : Hp), Rep C σ H ρ → ∀ Q : Option Int → Hp → Prop, (∀ H', R C H H' → Q o H') → to σ H Q
theorem o_none : EO C tNoPart ρ none := fun σ H r Q q => q H (R.refl r.j)
theorem o_some {i : Int} (h : E1 C te ρ (.dat (.int i))) : EO C (tPart te) ρ (some i) := fun σ H r Q q => h σ H r _ fun k v H1 s1 r1 o1 => by
  subst s1
  exact ⟨i, dp_int o1, q H1 r1⟩
def cutD (xs : List PyData) (lo hi : Option Int) : List PyData := (xs.drop (HT.sIx xs.length 0 lo)).take (HT.sIx xs.length xs.length hi - HT.sIx xs.length 0 lo)
theorem cut_all {K : PySem.W.Frag} {xs : List V} {lo hi : Option Int} (h : DpAll K H xs ds) : DpAll K H (cutV xs lo hi) (cutD ds lo hi) := by
  unfold cutV cutD
  rw [h.length]
  exact (h.drop _).take _
theorem VOk.lsq (h : VOk C ρ Hs H v k) (e : datK k = some (.list ds)) : ∃ a xs, v = .ref a ∧ SqL C.K H a xs ∧ DpAll C.K (msk C ρ H) xs ds := by
  cases k with
  | dat d =>
    cases e
    obtain ⟨a, xs, rfl, h1, h2⟩ := dp_lst h
    exact ⟨a, xs, rfl, Ext.l msk_le h1, h2⟩
  | own l es =>
    cases e
    obtain ⟨rfl, _, vs, h1, h2⟩ := h
    exact ⟨l, vs, rfl, .inl (.inl h1), h2⟩
  | new es =>
    cases e
    obtain ⟨l, vs, rfl, _, h1, h2⟩ := h
    exact ⟨l, vs, rfl, .inl (.inl h1), DpAll.ex del_le h2⟩
  | _ => cases e
/-- a part of a list, of a tuple, of a text -/
theorem e_slL {tlo thi : TO} {lo hi : Option Int} (h : E1 C te ρ k) (h1 : EO C tlo ρ lo) (h2 : EO C thi ρ hi) (e : datK k = some (.list ds)) : E1 C (tSl (rSlP C.K) te tlo thi) ρ (.new (cutD ds lo hi)) := fun σ H rp Q q =>
  h σ H rp _ fun k' v H1 s1 r1 o1 => h1 σ H1 (rp.up r1) _ fun H2 r2 => h2 σ H2 (rp.up (r1.trans r2)) _ fun H3 r3 => by
    subst s1
    have r0 := (r1.trans r2).trans r3
    have r4 := rp.up r0
    obtain ⟨a, xs, rfl, h5, h6⟩ := (o1.up rp (r2.trans r3)).lsq e
    refine .inl ⟨a, xs, rfl, h5, fun p hp => ?_⟩
    obtain ⟨q1, q2⟩ := r4.newL hp (cut_all h6)
    exact q _ _ _ rfl (r0.trans q1) (q2.back rp.ok r0)
theorem cut_whole {lo hi : Option Int} (h : HT.sIx ds.length 0 lo = 0 ∧ HT.sIx ds.length ds.length hi = ds.length) : cutD ds lo hi = ds := by
  unfold cutD
  rw [h.1, h.2]
  simp
theorem e_slT {tlo thi : TO} {lo hi : Option Int} (h : E1 C te ρ (.dat (.tuple ds))) (h1 : EO C tlo ρ lo) (h2 : EO C thi ρ hi) : E1 C (tSl (rSlP C.K) te tlo thi) ρ (.dat (.tuple (cutD ds lo hi))) := fun σ H rp Q q =>
  h σ H rp _ fun k' v H1 s1 r1 o1 => h1 σ H1 (rp.up r1) _ fun H2 r2 => h2 σ H2 (rp.up (r1.trans r2)) _ fun H3 r3 => by
    subst s1
    have r0 := (r1.trans r2).trans r3
    have r4 := rp.up r0
    have o4 : VOk C ρ H H3 v (.dat (.tuple ds)) := o1.up rp (r2.trans r3)
    obtain ⟨a, xs, rfl, h5, h6⟩ := dp_tup o4
    have hl := h6.length
    refine .inr (.inl ⟨a, xs, rfl, Ext.t msk_le h5, fun z => ?_, fun _ p hp => ?_⟩)
    · rw [hl] at z
      rw [cut_whole z] at q
      exact q _ _ _ rfl r0 o4
    · obtain ⟨q1, q2⟩ := r4.newT hp (cut_all h6)
      exact q _ _ _ rfl (r0.trans q1) q2
theorem e_slS {tlo thi : TO} {lo hi : Option Int} {z : Str} (h : E1 C te ρ (.dat (.str z))) (h1 : EO C tlo ρ lo) (h2 : EO C thi ρ hi) (hz : z.length ≤ sizeLine) : E1 C (tSl (rSlP C.K) te tlo thi) ρ (.dat (.str (cutS z lo hi))) := fun σ H rp Q q =>
  h σ H rp _ fun k' v H1 s1 r1 o1 => h1 σ H1 (rp.up r1) _ fun H2 r2 => h2 σ H2 (rp.up (r1.trans r2)) _ fun H3 r3 => by
    subst s1
    obtain rfl := dp_str o1
    exact .inr (.inr ⟨z, rfl, hz, q _ _ _ rfl ((r1.trans r2).trans r3) (.str _)⟩)
/-! ### calls of built-ins -/
theorem c_len (e : seqK k = some ds) : CbK C ρ (rLenP C.K) [k] fun a => a = .dat (.int ds.length) := fun σ Hs H vs _ q r o Q g => by
  obtain ⟨v, rfl, o1⟩ := o.one
  obtain ⟨a, xs, rfl, h1, h2⟩ := o1.seq e
  refine ⟨_, xs.length, rfl, ?_, by rw [h2.length]; exact g _ _ _ rfl (R.refl r.j) (.int _)⟩
  rcases h1 with h1 | h1
  · exact .inl ⟨xs, h1, rfl⟩
  · exact .inr ⟨xs, h1, rfl⟩
theorem c_lenS {z : Str} (hz : z.length ≤ sizeLine) : CbK C ρ (rLenP C.K) [.dat (.str z)] fun a => a = .dat (.int z.length) := fun σ Hs H vs _ q r o Q g => by
  obtain ⟨v, rfl, o1⟩ := o.one
  obtain rfl := dp_str o1
  exact ⟨_, z.length, rfl, ⟨hz, rfl⟩, g _ _ _ rfl (R.refl r.j) (.int _)⟩
theorem c_int {i : Int} : CbK C ρ rIntP [.dat (.int i)] fun a => a = .dat (.int i) := fun σ Hs H vs _ q r o Q g => by
  obtain ⟨v, rfl, o1⟩ := o.one
  obtain rfl := dp_int o1
  exact .inl (.inl ⟨i, rfl, g _ _ _ rfl (R.refl r.j) (.int _)⟩)
theorem c_intS {z : Str} {n : Int} (h : PySem.intText? z = some n) (hz : z.length ≤ 640) : CbK C ρ rIntP [.dat (.str z)] fun a => a = .dat (.int n) := fun σ Hs H vs _ q r o Q g => by
  obtain ⟨v, rfl, o1⟩ := o.one
  obtain rfl := dp_str o1
  exact .inr ⟨z, n, rfl, h, hz, g _ _ _ rfl (R.refl r.j) (.int _)⟩
theorem c_str {i : Int} (h : i.natAbs.log2 < 1920) : CbK C ρ rStrP [.dat (.int i)] fun a => a = .dat (.str (toString i)) := fun σ Hs H vs _ q r o Q g => by
  obtain ⟨v, rfl, o1⟩ := o.one
  obtain rfl := dp_int o1
  exact .inl ⟨i, rfl, h, g _ _ _ rfl (R.refl r.j) (.str _)⟩
theorem c_tupL (e : datK k = some (.list ds)) : CbK C ρ (rTupP C.K) [k] fun a => a = .dat (.tuple ds) := fun σ Hs H vs _ q r o Q g => by
  obtain ⟨v, rfl, o1⟩ := o.one
  obtain ⟨a, xs, rfl, h1, h2⟩ := o1.lsq e
  refine ⟨a, xs, rfl, .inl ⟨h1, fun p hp => ?_⟩⟩
  obtain ⟨q1, q2⟩ := r.newT hp h2
  exact g _ _ _ rfl q1 q2
theorem c_lst (e : seqK k = some ds) : CbK C ρ (rLstP C.K) [k] fun a => a = .new ds := fun σ Hs H vs _ q r o Q g => by
  obtain ⟨v, rfl, o1⟩ := o.one
  obtain ⟨a, xs, rfl, h1, h2⟩ := o1.seq e
  refine ⟨a, xs, rfl, h1, fun p hp => ?_⟩
  obtain ⟨q1, q2⟩ := r.newL hp h2
  exact g _ _ _ rfl q1 q2
theorem c_min {i j : Int} : CbK C ρ rMin2 [.dat (.int i), .dat (.int j)] fun a => a = .dat (.int (if j < i then j else i)) := fun σ Hs H vs _ q r o Q g => by
  obtain ⟨v, w, rfl, o1, o2⟩ := o.two
  obtain rfl := dp_int o1
  obtain rfl := dp_int o2
  exact ⟨i, j, rfl, g _ _ _ rfl (R.refl r.j) (.int _)⟩
theorem c_max {i j : Int} : CbK C ρ rMax2 [.dat (.int i), .dat (.int j)] fun a => a = .dat (.int (if j > i then j else i)) := fun σ Hs H vs _ q r o Q g => by
  obtain ⟨v, w, rfl, o1, o2⟩ := o.two
  obtain rfl := dp_int o1
  obtain rfl := dp_int o2
  exact ⟨i, j, rfl, g _ _ _ rfl (R.refl r.j) (.int _)⟩
theorem c_abs {i : Int} : CbK C ρ rAbs [.dat (.int i)] fun a => a = .dat (.int (if i < 0 then -i else i)) := fun σ Hs H vs _ q r o Q g => by
  obtain ⟨v, rfl, o1⟩ := o.one
  obtain rfl := dp_int o1
  exact ⟨i, rfl, g _ _ _ rfl (R.refl r.j) (.int _)⟩
/-! ### isinstance of a built-in class -/
def tyK : Kd → Option String
  | .dat .none => some "NoneType"
  | .dat (.bool _) => some "bool"
  | .dat (.int _) => some "int"
  | .dat (.str _) => some "str"
  | .dat (.tuple _) => some "tuple"
  | .dat (.list _) => some "list"
  | .own _ _ => some "list"
  | .new _ => some "list"
  | _ => none
theorem sqT_ty {K : PySem.W.Frag} {a : Addr} {xs : List V} (h : SqT K H a xs) : TyX K H (.ref a) (.type "tuple") := by
  rcases h with (h | ⟨o, h⟩) | ⟨o, its, n, h1, h2, _⟩
  · exact .base (.tup h)
  · exact .fTuple h
  · exact .kTuple h1 h2
theorem sqL_ty {K : PySem.W.Frag} {a : Addr} {xs : List V} (h : SqL K H a xs) : TyX K H (.ref a) (.type "list") := by
  rcases h with (h | ⟨o, h⟩) | ⟨o, its, n, h1, h2, _⟩
  · exact .base (.lst h)
  · exact .base (.frz h)
  · exact .kList h1 h2
theorem VOk.ty {T : String} (h : VOk C ρ Hs H v k) (e : tyK k = some T) : TyX C.K H v (.type T) := by
  cases k with
  | dat d =>
    have h' := Dp.ex msk_le (show Dp C.K (msk C ρ H) v d from h)
    cases h' with
    | non =>
      cases e
      exact .base .non
    | bl b =>
      cases e
      exact .base (.bl b)
    | int b =>
      cases e
      exact .base (.int b)
    | str b =>
      cases e
      exact .base (.str b)
    | lst h1 _ =>
      cases e
      exact sqL_ty h1
    | tup h1 _ =>
      cases e
      exact sqT_ty h1
    | ins h1 _ => cases e
    | atm => cases e
  | own l es =>
    cases e
    obtain ⟨rfl, _, vs, h1, h2⟩ := h
    exact .base (.lst h1)
  | new es =>
    cases e
    obtain ⟨l, vs, rfl, _, h1, h2⟩ := h
    exact .base (.lst h1)
  | _ => cases e
/-- isinstance(e, T) -/
theorem e_isi {n T : String} {b : Bool} {tc : TE} (h : E1 C te ρ k) (e : tyK k = some T) (hb : kitB T n = some b) : E1 C (tCB (rIsi C.K) (tCons te (tCons (tC (.ty n)) tNil))) ρ (.dat (.bool b)) := fun σ H rp Q q =>
  h σ H rp _ fun k' v H1 s1 r1 o1 => by
    subst s1
    exact ⟨v, .ty n, .type T, .type n, b, rfl, .ty n, o1.ty e, kit_ty hb, q _ _ _ rfl r1 (.bl _)⟩
/-! ### tests -/
def bK : Kd → Option Bool
  | .dat .none => some false
  | .dat (.bool b) => some b
  | .dat (.int i) => some (i != 0)
  | .dat (.tuple ds) => some !ds.isEmpty
  | .dat (.list ds) => some !ds.isEmpty
  | .own _ ds => some !ds.isEmpty
  | .new ds => some !ds.isEmpty
  | _ => none
theorem all_empty {K : PySem.W.Frag} {xs : List V} (h : DpAll K H xs ds) : (!xs.isEmpty) = !ds.isEmpty := by
  cases h <;> rfl
theorem VOk.tru {b : Bool} (h : VOk C ρ Hs H v k) (e : bK k = some b) : TruV C.K v H b := by
  have sq : ∀ ds, seqK k = some ds → (!ds.isEmpty) = b → TruV C.K v H b := fun ds e1 e2 => by
    obtain ⟨a, xs, rfl, h1, h2⟩ := h.seq e1
    rw [← e2, ← all_empty h2]
    rcases h1 with h1 | h1
    · exact .inl ⟨xs, h1, rfl⟩
    · exact .inr (.inl ⟨xs, h1, rfl⟩)
  cases k with
  | dat d =>
    cases d with
    | none =>
      cases e
      obtain rfl := dp_non h
      rfl
    | bool c =>
      cases e
      obtain rfl := dp_bl h
      rfl
    | int i =>
      cases e
      obtain rfl := dp_int h
      rfl
    | str z => cases e
    | dict _ => cases e
    | tuple ds => exact sq ds rfl (Option.some.inj e)
    | list ds => exact sq ds rfl (Option.some.inj e)
  | own l es => exact sq es rfl (Option.some.inj e)
  | new es => exact sq es rfl (Option.some.inj e)
  | _ => cases e
theorem t_tru {b : Bool} (h : E1 C te ρ k) (e : bK k = some b) : T1 C (tTru C.K te) ρ b := fun σ H rp Q q => h σ H rp _ fun k' v H1 s1 r1 o1 => by
  subst s1
  exact ⟨b, o1.tru e, q b H1 rfl r1⟩
theorem t_truS {b : Bool} {P : Bool → Prop} (h : EB C te ρ S) (s : ∀ k, S k → ∃ b, bK k = some b ∧ P b) : ET C (tTru C.K te) ρ P := fun σ H rp Q q => h σ H rp _ fun k' v H1 s1 r1 o1 => by
  obtain ⟨b, e, p⟩ := s k' s1
  exact ⟨b, o1.tru e, q b H1 p r1⟩
theorem t_test {b : Bool} (h : E1 C te ρ (.dat (.bool b))) : T1 C (tTest te) ρ b := fun σ H rp Q q => h σ H rp _ fun k' v H1 s1 r1 o1 => by
  subst s1
  exact ⟨b, dp_bl o1, q b H1 rfl r1⟩
theorem t_testS {P : Bool → Prop} (h : EB C te ρ S) (s : ∀ k, S k → ∃ b, k = .dat (.bool b) ∧ P b) : ET C (tTest te) ρ P := fun σ H rp Q q => h σ H rp _ fun k' v H1 s1 r1 o1 => by
  obtain ⟨b, rfl, p⟩ := s k' s1
  exact ⟨b, dp_bl o1, q b H1 p r1⟩
theorem t_B {b : Bool} (h : E1 C te ρ (.dat (.bool b))) : T1 C (tB te) ρ b := fun σ H rp Q q => h σ H rp _ fun k' v H1 s1 r1 o1 => by
  subst s1
  exact ⟨b, dp_bl o1, q b H1 rfl r1⟩
theorem t_not {a : Bool} (h : T1 C tt ρ a) : T1 C (tNot tt) ρ (!a) := fun σ H rp Q q => h σ H rp _ fun b H1 s1 r1 => by
  subst s1
  exact q _ H1 rfl r1
theorem t_and {a b : Bool} (h : T1 C tt ρ a) (h2 : a = true → T1 C tu ρ b) : T1 C (tAnd tt tu) ρ (a && b) := fun σ H rp Q q => h σ H rp _ fun a' H1 s1 r1 => by
  subst s1
  cases a' with
  | false => exact q _ H1 rfl r1
  | true => exact h2 rfl σ H1 (rp.up r1) _ fun b' H2 s2 r2 => q b' H2 (by rw [s2]; rfl) (r1.trans r2)
theorem t_or {a b : Bool} (h : T1 C tt ρ a) (h2 : a = false → T1 C tu ρ b) : T1 C (tOr tt tu) ρ (a || b) := fun σ H rp Q q => h σ H rp _ fun a' H1 s1 r1 => by
  subst s1
  cases a' with
  | true => exact q _ H1 rfl r1
  | false => exact h2 rfl σ H1 (rp.up r1) _ fun b' H2 s2 r2 => q b' H2 (by rw [s2]; rfl) (r1.trans r2)
theorem t_notS {P P1 : Bool → Prop} (h : ET C tt ρ P1) (s : ∀ a, P1 a → P (!a)) : ET C (tNot tt) ρ P := fun σ H rp Q q => h σ H rp _ fun b H1 s1 r1 => q _ H1 (s b s1) r1
theorem t_andS {P P1 P2 : Bool → Prop} (h : ET C tt ρ P1) (h2 : P1 true → ET C tu ρ P2) (s1 : P1 false → P false) (s2 : P1 true → ∀ b, P2 b → P b) : ET C (tAnd tt tu) ρ P := fun σ H rp Q q => h σ H rp _ fun a' H1 p1 r1 => by
  cases a' with
  | false => exact q _ H1 (s1 p1) r1
  | true => exact h2 p1 σ H1 (rp.up r1) _ fun b' H2 p2 r2 => q b' H2 (s2 p1 _ p2) (r1.trans r2)
theorem t_orS {P P1 P2 : Bool → Prop} (h : ET C tt ρ P1) (h2 : P1 false → ET C tu ρ P2) (s1 : P1 true → P true) (s2 : P1 false → ∀ b, P2 b → P b) : ET C (tOr tt tu) ρ P := fun σ H rp Q q => h σ H rp _ fun a' H1 p1 r1 => by
  cases a' with
  | true => exact q _ H1 (s1 p1) r1
  | false => exact h2 p1 σ H1 (rp.up r1) _ fun b' H2 p2 r2 => q b' H2 (s2 p1 _ p2) (r1.trans r2)
theorem e_and {a b : Bool} (h : E1 C ta ρ (.dat (.bool a))) (h2 : a = true → E1 C tb ρ (.dat (.bool b))) : E1 C (tAndV ta tb) ρ (.dat (.bool (a && b))) := fun σ H rp Q q => h σ H rp _ fun k v H1 s1 r1 o1 => by
  subst s1
  refine ⟨a, dp_bl o1, ?_⟩
  cases a with
  | false => exact q _ _ H1 rfl r1 (.bl _)
  | true => exact h2 rfl σ H1 (rp.up r1) Q fun k2 v2 H2 s2 r2 o2 => q k2 v2 H2 (by rw [s2]; rfl) (r1.trans r2) (o2.back rp.ok r1)
theorem e_or {a b : Bool} (h : E1 C ta ρ (.dat (.bool a))) (h2 : a = false → E1 C tb ρ (.dat (.bool b))) : E1 C (tOrV ta tb) ρ (.dat (.bool (a || b))) := fun σ H rp Q q => h σ H rp _ fun k v H1 s1 r1 o1 => by
  subst s1
  refine ⟨a, dp_bl o1, ?_⟩
  cases a with
  | true => exact q _ _ H1 rfl r1 (.bl _)
  | false => exact h2 rfl σ H1 (rp.up r1) Q fun k2 v2 H2 s2 r2 o2 => q k2 v2 H2 (by rw [s2]; rfl) (r1.trans r2) (o2.back rp.ok r1)
theorem e_not {a : Bool} (h : E1 C ta ρ (.dat (.bool a))) : E1 C (tNotV ta) ρ (.dat (.bool (!a))) := fun σ H rp Q q => h σ H rp _ fun k v H1 s1 r1 o1 => by
  subst s1
  exact ⟨a, dp_bl o1, q _ _ H1 rfl r1 (.bl _)⟩
theorem e_if {P : Bool → Prop} (h : ET C tt ρ P) (h1 : P true → EB C ta ρ S) (h2 : P false → EB C tb ρ S) : EB C (tIf tt ta tb) ρ S := fun σ H rp Q q => h σ H rp _ fun b H1 s1 r1 => by
  cases b with
  | true => exact h1 s1 σ H1 (rp.up r1) Q fun k2 v2 H2 s2 r2 o2 => q k2 v2 H2 s2 (r1.trans r2) (o2.back rp.ok r1)
  | false => exact h2 s1 σ H1 (rp.up r1) Q fun k2 v2 H2 s2 r2 o2 => q k2 v2 H2 s2 (r1.trans r2) (o2.back rp.ok r1)
/-! ### join, split -/
theorem VOk.strs {zs : List Str} (h : VOk C ρ Hs H v k) (e : seqK k = some (zs.map .str)) : ∃ a, v = .ref a ∧ (SqL C.K H a (zs.map V.str) ∨ SqT C.K H a (zs.map V.str)) := by
  obtain ⟨a, xs, rfl, h1, h2⟩ := h.seq e
  rw [h2.strs] at h1
  exact ⟨a, rfl, h1⟩
theorem e_join {z : Str} {zs : List Str} (h : E1 C ta ρ (.dat (.str z))) (h2 : E1 C tb ρ k) (e : seqK k = some (zs.map .str)) (hz : (zs.map (·.length)).sum + zs.length * z.length ≤ 16777216) :
    E1 C (tM1 (rJoin C.K) ta tb) ρ (.dat (.str (Txt.join z zs))) := fun σ H rp Q q => h σ H rp _ fun k1 v H1 s1 r1 o1 => by
  subst s1
  obtain rfl := dp_str o1
  refine ⟨⟨z, rfl⟩, h2 σ H1 (rp.up r1) _ fun k2 w H2 s2 r2 o2 => ?_⟩
  subst s2
  obtain ⟨a, rfl, h3⟩ := o2.strs e
  exact ⟨z, a, zs, rfl, rfl, h3, hz, q _ _ _ rfl (r1.trans r2) (.str _)⟩
theorem e_split {z y : Str} (h : E1 C ta ρ (.dat (.str z))) (h2 : E1 C tb ρ (.dat (.str y))) (hy : (y.length == 0) = false) (hz : z.length + 2 ≤ sizeLine) :
    E1 C (tM1 rSplit ta tb) ρ (.new ((Txt.split z y).map .str)) := fun σ H rp Q q => h σ H rp _ fun k1 v H1 s1 r1 o1 => by
  subst s1
  obtain rfl := dp_str o1
  refine ⟨⟨z, rfl⟩, h2 σ H1 (rp.up r1) _ fun k2 w H2 s2 r2 o2 => ?_⟩
  subst s2
  obtain rfl := dp_str o2
  refine ⟨z, y, rfl, rfl, hy, hz, fun p hp => ?_⟩
  obtain ⟨q1, q2⟩ := (rp.up (r1.trans r2)).newL hp (DpAll.of_strs (K := C.K) (H := msk C ρ H2) (Txt.split z y))
  exact q _ _ _ rfl ((r1.trans r2).trans q1) (q2.back rp.ok (r1.trans r2))
end
end Mh
namespace Mh
open PySem L2 TL
/-! ### statements -/
structure Po where
  nx : List Kd → Prop := fun _ => False
  rt : Kd → Prop := fun _ => False
  bk : List Kd → Prop := fun _ => False
  ct : List Kd → Prop := fun _ => False
/-- a value handed back -/
def RV (C : Ct) (H : Hp) (v : V) : Kd → Prop
  | .dat d => Dp C.K (fsh C.H0 C.F H) v d
  | .new ds => ∃ l vs, v = .ref l ∧ C.H0 l = none ∧ H l = some (.lst vs) ∧ DpAll C.K (del l (fsh C.H0 C.F H)) vs ds
  | .k φ => φ.ok C.K (fsh C.H0 C.F H) v
  | _ => False
def ROk (C : Ct) (v : V) (H : Hp) (k : Kd) : Prop := R C C.H0 H ∧ RV C H v k
structure Pd (C : Ct) (P : Po) (D : Ends) : Prop where
  nx : ∀ ρ σ H, P.nx ρ → Rep C σ H ρ → D.nx σ H
  rt : ∀ k v H, P.rt k → ROk C v H k → D.rt v H
  bk : ∀ ρ σ H, P.bk ρ → Rep C σ H ρ → D.bk σ H
  ct : ∀ ρ σ H, P.ct ρ → Rep C σ H ρ → D.ct σ H
def BS (C : Ct) (t : TS) (ρ : List Kd) (P : Po) : Prop := ∀ (σ : L2.St) (H : Hp), Rep C σ H ρ → ∀ D : Ends, Pd C P D → t D σ H
section
variable {C : Ct} {σ : L2.St} {H H' H1 H2 Hs : Hp} {ρ : List Kd} {v : V} {k x y z : Kd} {l : Addr} {d e : PyData} {ds es : List PyData} {ta tb te : TE} {tt : TT} {t u : TS} {i j : Nat} {S S1 S2 : Kd → Prop} {P P' : Po}
theorem BS.imp (h : BS C t ρ P) (n : ∀ r, P.nx r → P'.nx r) (rt : ∀ r, P.rt r → P'.rt r) (b : ∀ r, P.bk r → P'.bk r) (c : ∀ r, P.ct r → P'.ct r) : BS C t ρ P' := fun σ H r D pd =>
  h σ H r D ⟨fun ρ σ H p => pd.nx ρ σ H (n _ p), fun k v H p => pd.rt k v H (rt _ p), fun ρ σ H p => pd.bk ρ σ H (b _ p), fun ρ σ H p => pd.ct ρ σ H (c _ p)⟩
theorem b_next (h : P.nx ρ) : BS C tNext ρ P := fun σ H r D pd => pd.nx ρ σ H h r
theorem b_break (h : P.bk ρ) : BS C tBreak ρ P := fun σ H r D pd => pd.bk ρ σ H h r
theorem b_cont (h : P.ct ρ) : BS C tCont ρ P := fun σ H r D pd => pd.ct ρ σ H h r
theorem b_seq (h : BS C t ρ { P with nx := fun r => BS C u r P }) : BS C (tSeq t u) ρ P := fun σ H r D pd => h σ H r { D with nx := u D } ⟨fun ρ' σ' H' m r' => m σ' H' r' D pd, pd.rt, pd.bk, pd.ct⟩
/-- what a name's store leads to -/
def NxA (N : List Kd → Prop) (ρ : List Kd) (i : Nat) : Kd → Prop
  | .dat d => N (ρ.set i (.dat d))
  | .k φ => N (ρ.set i (.k φ))
  | .new ds => ∀ l, N (ρ.set i (.own l ds))
  | _ => False
theorem nx_store (r : Rep C σ H ρ) (q : R C H H') (o : VOk C ρ H H' v k) {N : List Kd → Prop} (h : NxA N ρ i k) : ∃ ρ', N ρ' ∧ Rep C (σ.set i (some v)) H' ρ' := by
  cases k with
  | dat d => exact ⟨_, h, (r.up q).set_plain (k := .dat d) rfl o⟩
  | k φ => exact ⟨_, h, (r.up q).set_plain (k := .k φ) rfl o⟩
  | new ds =>
    obtain ⟨l, vs, rfl, h1, h2, h3⟩ := o
    exact ⟨_, h l, r.set_new q h1 h2 h3⟩
  | un => exact False.elim h
  | own _ _ => exact False.elim h
theorem b_asg (h : EB C te ρ S) (s : ∀ z, S z → NxA P.nx ρ i z) : BS C (tAsg te (gName i)) ρ P := fun σ H r D pd => h σ H r _ fun k v H' s1 r1 o1 => by
  obtain ⟨ρ', n, r'⟩ := nx_store r r1 o1 (s k s1)
  exact pd.nx ρ' _ H' n r'
theorem q_asgS (h : EB C te ρ S) (s : ∀ z, S z → NxA (fun r => BS C u r P) ρ i z) : BS C (tSeq (tAsg te (gName i)) u) ρ P := b_seq (b_asg h s)
theorem q_asg (h : E1 C te ρ (.dat d)) (s : BS C u (ρ.set i (.dat d)) P) : BS C (tSeq (tAsg te (gName i)) u) ρ P := q_asgS h fun z e => by
  subst e
  exact s
theorem q_asgN (h : E1 C te ρ (.new ds)) (s : ∀ l, BS C u (ρ.set i (.own l ds)) P) : BS C (tSeq (tAsg te (gName i)) u) ρ P := q_asgS h fun z e => by
  subst e
  exact s
theorem b_if {T : Bool → Prop} (h : ET C tt ρ T) (h1 : T true → BS C t ρ P) (h2 : T false → BS C u ρ P) : BS C (tIfS tt t u) ρ P := fun σ H r D pd => h σ H r _ fun b H' s1 r1 => by
  cases b with
  | true => exact h1 s1 σ H' (r.up r1) D pd
  | false => exact h2 s1 σ H' (r.up r1) D pd
theorem q_if {w : TS} {T : Bool → Prop} (h : ET C tt ρ T) (h1 : T true → BS C t ρ { P with nx := fun r => BS C w r P }) (h2 : T false → BS C u ρ { P with nx := fun r => BS C w r P }) : BS C (tSeq (tIfS tt t u) w) ρ P := b_seq (b_if h h1 h2)
/-- if without else -/
theorem q_when {w : TS} {T : Bool → Prop} (h : ET C tt ρ T) (h1 : T true → BS C t ρ { P with nx := fun r => BS C w r P }) (h2 : T false → BS C w ρ P) : BS C (tSeq (tIfS tt t tNext) w) ρ P := q_if h h1 fun q => b_next (h2 q)
theorem b_drop (h : EB C te ρ S) (s : P.nx ρ) : BS C (tDrop te) ρ P := fun σ H r D pd => h σ H r _ fun k v H' s1 r1 o1 => pd.nx ρ σ H' s (r.up r1)
/-! ### return -/
def nlL (ds : List PyData) : Bool := nl.nlAll ds
theorem fsh_dp (r : Rep C σ H ρ) (n : C.fr = true ∨ nl d = true) (h : Dp C.K (msk C ρ H) v d) : Dp C.K (fsh C.H0 C.F H) v d := by
  have e1 : C.fr = true → Ext (msk C ρ H) (fsh C.H0 C.F H) := fun f a o q => by
    obtain ⟨h1, h2, h3, h4⟩ := msk_of q
    exact fsh_mk h1 h3 fun z => h4 ⟨f, z.1, z.2⟩
  rcases n with n | n
  · exact Dp.ex (e1 n) h
  · refine Dp.tx (fun a o q nL => ?_) n h
    obtain ⟨h1, h2, h3, _⟩ := msk_of q
    exact fsh_mk h1 h3 fun z => nL (by
      rw [h1] at z
      exact z.2)
theorem fsh_all (r : Rep C σ H ρ) (n : C.fr = true ∨ nlL ds = true) {M : Hp} (hM : Ext M (msk C ρ H)) {l : Addr} (hl : ∀ a o, M a = some o → a ≠ l) {vs : List V} (h : DpAll C.K M vs ds) : DpAll C.K (del l (fsh C.H0 C.F H)) vs ds := by
  have e1 : C.fr = true → Ext M (del l (fsh C.H0 C.F H)) := fun f a o q => by
    obtain ⟨h1, h2, h3, h4⟩ := msk_of (hM a o q)
    exact del_mk (fsh_mk h1 h3 fun z => h4 ⟨f, z.1, z.2⟩) (hl a o q)
  rcases n with n | n
  · exact DpAll.ex (e1 n) h
  · refine DpAll.tx (fun a o q nL => ?_) n h
    obtain ⟨h1, h2, h3, _⟩ := msk_of (hM _ _ q)
    exact del_mk (fsh_mk h1 h3 fun z => nL (by
      rw [h1] at z
      exact z.2)) (hl _ _ q)
/-- what may be handed back -/
def RtK (C : Ct) (rt : Kd → Prop) : Kd → Prop
  | .dat d => (C.fr = true ∨ nl d = true) ∧ rt (.dat d)
  | .new ds => (C.fr = true ∨ nlL ds = true) ∧ rt (.new ds)
  | .own _ ds => (C.fr = true ∨ nlL ds = true) ∧ rt (.new ds)
  | .k φ => C.fr = true ∧ rt (.k φ)
  | .un => False
theorem rt_ok (r : Rep C σ H ρ) (q : R C H H') (o : VOk C ρ H H' v k) {rt : Kd → Prop} (h : RtK C rt k) : ∃ k', rt k' ∧ ROk C v H' k' := by
  have r2 := r.up q
  have q0 : R C C.H0 H' := ⟨r2.j, r2.old⟩
  cases k with
  | dat d => exact ⟨_, h.2, q0, fsh_dp r2 h.1 o⟩
  | new ds =>
    obtain ⟨l, vs, rfl, h1, h2, h3⟩ := o
    exact ⟨_, h.2, q0, l, vs, rfl, r.h0 h1, h2, fsh_all r2 h.1 del_le (fun a o z => (del_of z).2) h3⟩
  | own l ds =>
    obtain ⟨rfl, h1, vs, h2, h3⟩ := o
    exact ⟨_, h.2, q0, l, vs, rfl, r.fr l h1, h2, fsh_all r2 h.1 (Ext.refl _) (fun a o z e => (msk_of z).2.1 (e ▸ h1)) h3⟩
  | k φ =>
    refine ⟨_, h.2, q0, φ.up (fun a o z => ?_) o⟩
    obtain ⟨h1, h2, h3, h4⟩ := msk_of z
    exact fsh_mk h1 h3 fun z => h4 ⟨h.1, z.1, z.2⟩
  | un => exact False.elim h
theorem b_retS (h : EB C te ρ S) (s : ∀ z, S z → RtK C P.rt z) : BS C (tRet te) ρ P := fun σ H r D pd => h σ H r _ fun k v H' s1 r1 o1 => by
  obtain ⟨k', n, r'⟩ := rt_ok r r1 o1 (s k s1)
  exact pd.rt k' _ H' n r'
theorem b_ret (h : E1 C te ρ (.dat d)) (n : nl d = true) (s : P.rt (.dat d)) : BS C (tRet te) ρ P := b_retS h fun z e => by
  subst e
  exact ⟨.inr n, s⟩
theorem b_retL (h : E1 C te ρ k) (e : lstK k = some ds) (n : nlL ds = true) (s : P.rt (.new ds)) : BS C (tRet te) ρ P := b_retS h fun z e2 => by
  subst e2
  cases z with
  | own _ _ =>
    cases e
    exact ⟨.inr n, s⟩
  | new _ =>
    cases e
    exact ⟨.inr n, s⟩
  | _ => cases e
theorem b_retN (s : P.rt (.dat .none)) : BS C tRetN ρ P := fun σ H r D pd => pd.rt (.dat .none) _ H s ⟨⟨r.j, r.old⟩, .non⟩
/-! ### x op= e -/
theorem b_aug {f : Int → Int → Int} {a b : Int} (hi : ρ[i]? = some (.dat (.int a))) (h : E1 C te ρ (.dat (.int b))) (s : P.nx (ρ.set i (.dat (.int (f a b))))) : BS C (tAug i te (ipI f)) ρ P := fun σ H r D pd => by
  obtain ⟨v, e, o⟩ := r.var hi rfl
  obtain rfl := dp_int o
  refine ⟨_, e, h σ H r _ fun k w H' s1 r1 o1 => ?_⟩
  subst s1
  obtain rfl := dp_int o1
  exact ⟨a, b, rfl, rfl, pd.nx _ _ H' s ((r.up r1).set_plain (Hs := H) (k := .dat (.int (f a b))) rfl (.int _))⟩
theorem q_aug {f : Int → Int → Int} {a b : Int} (hi : ρ[i]? = some (.dat (.int a))) (h : E1 C te ρ (.dat (.int b))) (s : BS C u (ρ.set i (.dat (.int (f a b)))) P) : BS C (tSeq (tAug i te (ipI f)) u) ρ P := b_seq (b_aug hi h s)
/-! ### lists of the def's own, changed -/
theorem msk_it (r : Rep C σ H ρ) (o : VOk C ρ Hs H v (.dat d)) : Dp C.K (msk C ρ H) v d := o
theorem b_appS (hi : ρ[i]? = some (.own l ds)) (h : EB C te ρ S) (s : ∀ z, S z → ds.length < sizeLine ∧ ∃ d, (z = .dat d ∨ ∃ es, z = .new es ∧ d = .list es) ∧ P.nx (ρ.set i (.own l (ds ++ [d])))) :
    BS C (tDrop (tBM C.K "list" rAppend (tVar i) (tCons te tNil))) ρ P := fun σ H r D pd => by
  obtain ⟨v, e, o⟩ := r.var hi rfl
  obtain ⟨rfl, ho, vs, h1, h2⟩ := o
  refine ⟨_, e, .inl ⟨rfl, vs, .inl (.inl h1)⟩, h σ H r _ fun k w H' s1 r1 o1 => ?_⟩
  obtain ⟨hz, d, hd, n⟩ := s k s1
  have r' := r.up r1
  obtain ⟨vs', h3, h4⟩ := r'.own_at hi
  have hw : Dp C.K (msk C ρ H') w d := by
    rcases hd with rfl | ⟨es, rfl, rfl⟩
    · exact o1
    · exact o1.frz r r1
  refine ⟨l, vs', w, rfl, rfl, h3, by rw [h4.length]; exact hz, pd.nx _ _ _ n (r'.wr hi (h4.append (.cons hw .nil)))⟩
theorem b_app (hi : ρ[i]? = some (.own l ds)) (h : E1 C te ρ (.dat d)) (hz : ds.length < sizeLine) (s : P.nx (ρ.set i (.own l (ds ++ [d])))) : BS C (tDrop (tBM C.K "list" rAppend (tVar i) (tCons te tNil))) ρ P :=
  b_appS hi h fun z e => ⟨hz, d, .inl e, s⟩
theorem q_app (hi : ρ[i]? = some (.own l ds)) (h : E1 C te ρ (.dat d)) (hz : ds.length < sizeLine) (s : BS C u (ρ.set i (.own l (ds ++ [d]))) P) : BS C (tSeq (tDrop (tBM C.K "list" rAppend (tVar i) (tCons te tNil))) u) ρ P := b_seq (b_app hi h hz s)
/-- a, b = xs.pop() -/
theorem b_pop2 {n : Nat} (hn : n ≠ j) (hi : ρ[i]? = some (.own l (ds ++ [.tuple [d, e]]))) (hnn : n ≠ i) (hji : j ≠ i) (s : P.nx (((ρ.set i (.own l ds)).set n (.dat d)).set j (.dat e))) :
    BS C (tAsg (tBM0 C.K "list" rPop (tVar i)) (gTup C.K 2 (gCons (gName n) (gCons (gName j) gNil)))) ρ P := fun σ H r D pd => by
  obtain ⟨v, ev, o⟩ := r.var hi rfl
  obtain ⟨rfl, ho, vs, h1, h2⟩ := o
  have hl := h2.length
  rw [List.length_append, List.length_singleton] at hl
  obtain ⟨w, hw, dw⟩ := h2.getd (i := ds.length) (d := .tuple [d, e]) (by simp)
  have hdl : DpAll C.K (msk C ρ H) vs.dropLast ds := by
    have q := h2.dropLast
    rw [List.dropLast_concat] at q
    exact q
  refine ⟨_, ev, .inl ⟨rfl, vs, .inl (.inl h1)⟩, l, vs, w, rfl, rfl, h1, by rw [hl]; exact hw, ?_⟩
  have r2 := r.wr hi hdl
  have dw2 := Dp.ex (msk_upd (C := C) (H := H) (es := ds) (o := .lst vs.dropLast) hi) dw
  obtain ⟨a, xs, rfl, h3, h4⟩ := dp_tup dw2
  cases h4 with
  | cons g1 g2 =>
    cases g2 with
    | cons g2 g3 =>
      cases g3
      refine ⟨a, _, rfl, Ext.t msk_le h3, rfl, _, _, rfl, _, _, rfl, rfl, ?_⟩
      refine pd.nx _ _ _ s ?_
      have r3 := r2.set_plain (i := n) (Hs := H) (k := .dat d) rfl g1
      exact r3.set_plain (i := j) (Hs := H) (k := .dat e) rfl (Dp.ex (msk_plain rfl) g2)
/-! ### loops -/
theorem b_while {T : List Kd → Bool → Prop} (I : Nat → List Kd → Prop) (m : Nat) (h0 : I m ρ) (ht : ∀ m ρ, I m ρ → ET C tt ρ (T ρ)) (he : ∀ m ρ, I m ρ → T ρ false → P.nx ρ)
    (hb : ∀ m ρ, I m ρ → T ρ true → BS C t ρ { nx := fun r => ∃ m', m' < m ∧ I m' r, ct := fun r => ∃ m', m' < m ∧ I m' r, bk := P.nx, rt := P.rt }) : BS C (tWhile tt t) ρ P := fun σ H r D pd => by
  refine ⟨fun m σ H => ∃ ρ, I m ρ ∧ Rep C σ H ρ, ⟨m, ρ, h0, r⟩, ?_⟩
  rintro m σ H ⟨ρ, hI, r⟩
  refine ht m ρ hI σ H r _ fun b H' s1 r1 => ?_
  cases b with
  | false => exact pd.nx ρ σ H' (he m ρ hI s1) (r.up r1)
  | true =>
    refine ⟨fun σ' H' => ∃ m', m' < m ∧ ∃ ρ, I m' ρ ∧ Rep C σ' H' ρ, fun σ' H' z => z, ?_⟩
    exact hb m ρ hI s1 σ H' (r.up r1) _ ⟨fun ρ σ H ⟨m', h1, h2⟩ r => ⟨m', h1, ρ, h2, r⟩, pd.rt, fun ρ σ H z r => pd.nx ρ σ H z r, fun ρ σ H ⟨m', h1, h2⟩ r => ⟨m', h1, ρ, h2, r⟩⟩
/-- a datum that must stand, on top -/
abbrev Ct.pin (C : Ct) (v : V) (d : PyData) : Ct := { C with pn := (v, d) :: C.pn }
theorem pin_ok {v : V} (ok : C.Ok) : (C.pin v d).Ok := ⟨ok.st, ok.ls, ok.j0, ok.hE⟩
theorem Rep.unpin {v : V} (r : Rep (C.pin v d) σ H ρ) (ok : C.Ok) : Rep C σ H ρ := ⟨ok, r.j, r.old, r.len, r.nd, r.fr, r.sl, fun p hp => r.pn p (List.mem_cons_of_mem _ hp)⟩
theorem Rep.pin (r : Rep C σ H ρ) {v : V} (h : Dp C.K (msk C ρ H) v d) : Rep (C.pin v d) σ H ρ := ⟨pin_ok r.ok, r.j, r.old, r.len, r.nd, r.fr, r.sl, fun p hp => by
  rcases List.mem_cons.mp hp with e | hp
  · rw [e]
    exact h
  · exact r.pn p hp⟩
/-- for x in a list, a tuple: the body is read for every context that pins what is walked -/
theorem b_for {tl : TE} (hl : E1 C tl ρ k) (e : k = .dat (.list ds) ∨ k = .dat (.tuple ds) ∨ k = .new ds) (I : Nat → List Kd → Prop) (h0 : I 0 ρ)
    (hb : ∀ v d' (n : Nat) (a : PyData) ρ, ds[n]? = some a → I n ρ → BS (C.pin v d') t (ρ.set j (.dat a)) { nx := I (n + 1), ct := I (n + 1), bk := P.nx, rt := P.rt }) (he : ∀ ρ, I ds.length ρ → P.nx ρ) :
    BS C (tFor (iAny C.K tl) (gName j) t) ρ P := fun σ H r D pd => by
  refine hl σ H r _ fun k' v H1 s1 r1 o1 => ?_
  subst s1
  have step : ∀ (d : PyData), Dp C.K (msk C ρ H1) v d → (d = .list ds ∨ d = .tuple ds) →
      ∀ (a : Addr) (J : It), v = .ref a →
      (∀ (H : Hp) (n : Nat), Dp C.K H v d → (ds.length ≤ n → J.stop n H) ∧ (n < ds.length → J.go n H) ∧ ∀ x H', J.yld n H x H' → n < ds.length → H' = H ∧ ∃ b, ds[n]? = some b ∧ ∀ M, Ext M H → Dp C.K M v d → Dp C.K M x b) →
      ∃ W : Nat → Nat → L2.St → Hp → Prop, (∃ m, W 0 m σ H1) ∧ ∀ i m σ H, W i m σ H →
        (J.stop i H ∧ D.nx σ H) ∨ (J.go i H ∧ ∃ N : L2.St → Hp → Prop, (∀ σ' H', N σ' H' → ∃ m', m' < m ∧ W (i + 1) m' σ' H') ∧ ∀ x H', J.yld i H x H' → gName j x σ H' fun σ2 H2 => t { D with nx := N, ct := N, bk := D.nx } σ2 H2) := by
    intro d hd hds a J ea hJ
    refine ⟨fun n m σ H => m = ds.length - n ∧ n ≤ ds.length ∧ ∃ ρ, I n ρ ∧ Rep (C.pin v d) σ H ρ, ⟨_, rfl, Nat.zero_le _, ρ, h0, (r.up r1).pin hd⟩, ?_⟩
    rintro n m σ H ⟨rfl, hn, ρ', hI, rp⟩
    have hv : Dp C.K (msk C ρ' H) v d := rp.pn (v, d) List.mem_cons_self
    obtain ⟨j1, j2, j3⟩ := hJ H n (Dp.ex msk_le hv)
    by_cases hlt : n < ds.length
    · refine .inr ⟨j2 hlt, fun σ' H' => ∃ ρ, I (n + 1) ρ ∧ Rep (C.pin v d) σ' H' ρ, fun σ' H' z => ⟨_, by omega, rfl, hlt, z⟩, fun x H' y => ?_⟩
      obtain ⟨eH, b, hb1, hb2⟩ := j3 x H' y hlt
      subst eH
      have hx : Dp C.K (msk (C.pin v d) ρ' H') x b := hb2 _ msk_le hv
      have rs := rp.set_plain (i := j) (Hs := H') (k := .dat b) rfl hx
      exact hb v d n b ρ' hb1 hI _ H' rs _ ⟨fun ρ σ H z r => ⟨ρ, z, r⟩, fun k v H z r => pd.rt k v H z r, fun ρ σ H z r' => pd.nx ρ σ H z (r'.unpin r.ok), fun ρ σ H z r => ⟨ρ, z, r⟩⟩
    · have en : n = ds.length := by omega
      subst en
      exact .inl ⟨j1 (Nat.le_refl _), pd.nx ρ' σ H (he ρ' hI) (rp.unpin r.ok)⟩
  have hd0 : ∃ d, Dp C.K (msk C ρ H1) v d ∧ (d = .list ds ∨ d = .tuple ds) := by
    rcases e with rfl | rfl | rfl
    · exact ⟨_, o1, .inl rfl⟩
    · exact ⟨_, o1, .inr rfl⟩
    · exact ⟨_, o1.frz r r1, .inl rfl⟩
  obtain ⟨d, hd, hds⟩ := hd0
  rcases hds with rfl | rfl
  · obtain ⟨a, xs, rfl, h1, h2⟩ := dp_lst hd
    refine .inl ⟨a, rfl, ⟨xs, Ext.l msk_le h1⟩, step _ hd (.inl rfl) a _ rfl fun H n q => ?_⟩
    obtain ⟨a', ys, ea, g1, g2⟩ := dp_lst q
    cases ea
    have gl := g2.length
    refine ⟨fun z => ⟨ys, g1, by omega⟩, fun z => ⟨ys, ys[n]'(by omega), g1, List.getElem?_eq_getElem _⟩, fun x H' y z => ?_⟩
    obtain ⟨eH, y2⟩ := y
    refine ⟨eH, ds[n], List.getElem?_eq_getElem _, fun M hM q2 => ?_⟩
    obtain ⟨a', zs, ea, f1, f2⟩ := dp_lst q2
    cases ea
    obtain ⟨u, hu1, hu2⟩ := f2.getd (i := n) (d := ds[n]) (List.getElem?_eq_getElem _)
    have e3 := y2 zs (Ext.l hM f1)
    rw [hu1] at e3
    rw [← Option.some.inj e3]
    exact hu2
  · obtain ⟨a, xs, rfl, h1, h2⟩ := dp_tup hd
    refine .inr (.inl ⟨a, rfl, ⟨xs, Ext.t msk_le h1⟩, step _ hd (.inr rfl) a _ rfl fun H n q => ?_⟩)
    obtain ⟨a', ys, ea, g1, g2⟩ := dp_tup q
    cases ea
    have gl := g2.length
    refine ⟨fun z => ⟨ys, g1, by omega⟩, fun z => ⟨ys, ys[n]'(by omega), g1, List.getElem?_eq_getElem _⟩, fun x H' y z => ?_⟩
    obtain ⟨eH, y2⟩ := y
    refine ⟨eH, ds[n], List.getElem?_eq_getElem _, fun M hM q2 => ?_⟩
    obtain ⟨a', zs, ea, f1, f2⟩ := dp_tup q2
    cases ea
    obtain ⟨u, hu1, hu2⟩ := f2.getd (i := n) (d := ds[n]) (List.getElem?_eq_getElem _)
    have e3 := y2 zs (Ext.t hM f1)
    rw [hu1] at e3
    rw [← Option.some.inj e3]
    exact hu2
/-- for x in range(..) -/
theorem b_forR {wi : TI} {lo : Int} {m : Nat} (hw : ∀ (σ : L2.St) (H : Hp), Rep C σ H ρ → ∀ W : It → Hp → Prop, (∀ H', R C H H' → W (Itr lo m) H') → wi σ H W) (I : Nat → List Kd → Prop) (h0 : I 0 ρ)
    (hb : ∀ (n : Nat) ρ, n < m → I n ρ → BS C t (ρ.set j (.dat (.int (lo + n)))) { nx := I (n + 1), ct := I (n + 1), bk := P.nx, rt := P.rt }) (he : ∀ ρ, I m ρ → P.nx ρ) :
    BS C (tFor wi (gName j) t) ρ P := fun σ H r D pd => by
  refine hw σ H r _ fun H1 r1 => ?_
  refine ⟨fun n m' σ H => m' = m - n ∧ n ≤ m ∧ ∃ ρ, I n ρ ∧ Rep C σ H ρ, ⟨_, rfl, Nat.zero_le _, ρ, h0, r.up r1⟩, ?_⟩
  rintro n m' σ H ⟨rfl, hn, ρ', hI, rp⟩
  by_cases hlt : n < m
  · refine .inr ⟨hlt, fun σ' H' => ∃ ρ, I (n + 1) ρ ∧ Rep C σ' H' ρ, fun σ' H' z => ⟨_, by omega, rfl, hlt, z⟩, fun x H' y => ?_⟩
    obtain ⟨eH, rfl⟩ := y
    subst eH
    exact hb n ρ' hlt hI _ H' (rp.set_plain (i := j) (Hs := H') (k := .dat (.int (lo + n))) rfl (.int _)) _ ⟨fun ρ σ H z r => ⟨ρ, z, r⟩, fun k v H z r => pd.rt k v H z r, fun ρ σ H z r' => pd.nx ρ σ H z r', fun ρ σ H z r => ⟨ρ, z, r⟩⟩
  · have en : n = m := by omega
    subst en
    exact .inl ⟨Nat.le_refl _, pd.nx ρ' σ H (he ρ' hI) rp⟩
theorem w_rng1 {ta : TA} {m : Int} (h : A1 C ta ρ [.dat (.int m)]) (h1 : -(2 ^ 62) ≤ m ∧ m < 2 ^ 62) : ∀ (σ : L2.St) (H : Hp), Rep C σ H ρ → ∀ W : It → Hp → Prop, (∀ H', R C H H' → W (Itr 0 m.toNat) H') → iRng1 ta σ H W := fun σ H r W q =>
  h σ H r _ fun ks vs H1 s1 r1 o1 => by
    subst s1
    obtain ⟨v, rfl, o2⟩ := o1.one
    obtain rfl := dp_int o2
    exact ⟨m, rfl, h1.1, h1.2, q H1 r1⟩
theorem w_rng2 {ta : TA} {a m : Int} (h : A1 C ta ρ [.dat (.int a), .dat (.int m)]) (h0 : -(2 ^ 62) ≤ a ∧ a < 2 ^ 62) (h1 : -(2 ^ 62) ≤ m ∧ m < 2 ^ 62) : ∀ (σ : L2.St) (H : Hp), Rep C σ H ρ → ∀ W : It → Hp → Prop, (∀ H', R C H H' → W (Itr a (m - a).toNat) H') → iRng2 ta σ H W := fun σ H r W q =>
  h σ H r _ fun ks vs H1 s1 r1 o1 => by
    subst s1
    obtain ⟨v, w, rfl, o2, o3⟩ := o1.two
    obtain rfl := dp_int o2
    obtain rfl := dp_int o3
    exact ⟨a, m, rfl, ⟨h0.1, h0.2, h1.1, h1.2⟩, q H1 r1⟩
end
end Mh
namespace Mh
open PySem L2 TL
/-! ### a def's promise, its body, its call -/
abbrev Zt := Value → List (Str × PyData) → Prop
abbrev At := List Kd → (Kd → Prop) → Zt → Prop
def SpF (K : PySem.W.Frag) (F : Addr → Prop) (J : Hp → Prop) (fr : Bool) (A : At) : Sp := fun vs H Q E => ∃ ks S Z, A ks S Z ∧ Rep ⟨K, F, J, H, fr, [], E, Z⟩ (vs.map some) H ks ∧ ∀ k v H', S k → ROk ⟨K, F, J, H, fr, [], E, Z⟩ v H' k → Q v H'
def noF : Addr → Prop := fun _ => False
def noJ : Hp → Prop := fun _ => True
def noZ : Zt := fun _ _ => False
/-- data alone: no list of others is changed -/
abbrev SpP (K : PySem.W.Frag) (A : At) : Sp := SpF K noF noJ false A
section
variable {C : Ct} {σ : L2.St} {H H' H1 H2 Hs : Hp} {ρ : List Kd} {v : V} {k x y z : Kd} {l : Addr} {d e : PyData} {ds es : List PyData} {ta tb te : TE} {tt : TT} {t u : TS} {i j : Nat} {S S1 S2 : Kd → Prop} {P P' : Po}
theorem own_app {n : Nat} {a : Addr} : Own (ρ ++ List.replicate n .un) a ↔ Own ρ a := by
  constructor
  · rintro ⟨i, ds, e⟩
    by_cases h : i < ρ.length
    · rw [List.getElem?_append_left h] at e
      exact ⟨i, ds, e⟩
    · rw [List.getElem?_append_right (by omega), List.getElem?_replicate] at e
      split at e <;> cases e
  · rintro ⟨i, ds, e⟩
    refine ⟨i, ds, ?_⟩
    rw [List.getElem?_append_left (List.getElem?_eq_some_iff.mp e).1]
    exact e
theorem msk_same {ρ' : List Kd} (h : ∀ a, Own ρ a ↔ Own ρ' a) : msk C ρ H = msk C ρ' H := by
  funext a
  unfold msk
  rw [propext (h a)]
theorem Rep.more (r : Rep C σ H ρ) (n : Nat) : Rep C (σ ++ List.replicate n none) H (ρ ++ List.replicate n .un) where
  ok := r.ok
  j := r.j
  old := r.old
  len := by rw [List.length_append, List.length_append, r.len, List.length_replicate, List.length_replicate]
  nd := fun a b l ds es ha hb => by
    have q : ∀ {a : Nat} {ds}, (ρ ++ List.replicate n .un)[a]? = some (Kd.own l ds) → ρ[a]? = some (Kd.own l ds) := fun {a ds} ha => by
      by_cases h : a < ρ.length
      · rw [List.getElem?_append_left h] at ha
        exact ha
      · rw [List.getElem?_append_right (by omega), List.getElem?_replicate] at ha
        split at ha <;> cases ha
    exact r.nd a b l ds es (q ha) (q hb)
  fr := fun l o => r.fr l (own_app.mp o)
  sl := fun i k e => by
    rw [← msk_same (ρ := ρ) fun a => own_app.symm]
    by_cases h : i < ρ.length
    · rw [List.getElem?_append_left h] at e
      have q := r.sl i k e
      rw [List.getD_eq_getElem?_getD, List.getElem?_append_left (by rw [r.len]; exact h), ← List.getD_eq_getElem?_getD]
      exact q
    · rw [List.getElem?_append_right (by omega), List.getElem?_replicate] at e
      split at e
      · cases e
        trivial
      · cases e
  pn := fun p hp => by
    rw [← msk_same (ρ := ρ) fun a => own_app.symm]
    exact r.pn p hp
theorem sp_body {K : PySem.W.Frag} {F : Addr → Prop} {J : Hp → Prop} {fr : Bool} {A : At} {vs : List V} {Q : VK} {E : XK} {N : List Str}
    (h : ∀ H E ks S Z, A ks S Z → ∀ n, ks.length + n = N.length ∨ N.length ≤ ks.length → BS ⟨K, F, J, H, fr, [], E, Z⟩ t (ks ++ List.replicate (N.length - ks.length) .un) { rt := S, nx := fun _ => S (.dat .none) }) (q : SpF K F J fr A vs H Q E) :
    t { nx := fun _ H' => Q .non H', rt := Q } (L2.start N vs) H := by
  obtain ⟨ks, S, Z, a, r, f⟩ := q
  have hl : vs.length = ks.length := by
    have := r.len
    rw [List.length_map] at this
    exact this
  have r2 := r.more (N.length - ks.length)
  have e : L2.start N vs = vs.map some ++ List.replicate (N.length - ks.length) none := by
    unfold L2.start
    rw [hl]
  rw [e]
  refine h H E ks S Z a (N.length - ks.length) (by omega) _ H r2 _ ⟨fun ρ σ H' z r' => ?_, fun k v H' z r' => f k v H' z r', fun _ _ _ z => False.elim z, fun _ _ _ z => False.elim z⟩
  exact f _ _ _ z ⟨⟨r'.j, r'.old⟩, .non⟩
/-! ### arguments -/
inductive ArgK (fr : Bool) : Kd → Kd → Prop where
  | dat {d : PyData} (n : fr = true → nl d = true) : ArgK fr (.dat d) (.dat d)
  | own {l : Addr} {ds : List PyData} (n : fr = false) : ArgK fr (.own l ds) (.dat (.list ds))
  | new {ds : List PyData} (n : fr = false) : ArgK fr (.new ds) (.dat (.list ds))
  | k {φ : Knd} (n : fr = false ∨ ∀ K H H' v, φ.ok K H v → φ.ok K H' v) : ArgK fr (.k φ) (.k φ)
inductive ArgsK (fr : Bool) : List Kd → List Kd → Prop where
  | nil : ArgsK fr [] []
  | cons {x y : Kd} {xs ys : List Kd} : ArgK fr x y → ArgsK fr xs ys → ArgsK fr (x :: xs) (y :: ys)
/-- the same world, or none -/
def SubW (C : Ct) (F : Addr → Prop) (J : Hp → Prop) : Prop := (F = C.F ∧ J = C.J) ∨ (F = noF ∧ J = noJ)
theorem SubW.le {F : Addr → Prop} {J : Hp → Prop} (w : SubW C F J) {a : Addr} (h : F a) : C.F a := by
  rcases w with ⟨rfl, _⟩ | ⟨rfl, _⟩
  · exact h
  · exact False.elim h
theorem arg_ok {fr : Bool} {F : Addr → Prop} {J : Hp → Prop} {E : XK} {Z : Zt} {ρ' : List Kd} (rs : Rep C σ Hs ρ) (q : R C Hs H) (w : SubW C F J) (no : ∀ a, ¬ Own ρ' a) (o : VOk C ρ Hs H v x) (h : ArgK fr x y) :
    SlOk C.K (msk ⟨C.K, F, J, H, fr, [], E, Z⟩ ρ' H) H (some v) y := by
  have rp := rs.up q
  have e1 : fr = false → Ext (msk C ρ H) (msk ⟨C.K, F, J, H, fr, [], E, Z⟩ ρ' H) := fun f a o q => by
    obtain ⟨h1, h2, h3, h4⟩ := msk_of q
    exact msk_mk h1 (no a) (fun z => h3 (w.le z)) fun z => by
      have z1 : fr = true := z.1
      rw [f] at z1
      cases z1
  have e2 : Tx (msk C ρ H) (msk ⟨C.K, F, J, H, fr, [], E, Z⟩ ρ' H) := fun a o q nL => by
    obtain ⟨h1, h2, h3, h4⟩ := msk_of q
    exact msk_mk h1 (no a) (fun z => h3 (w.le z)) fun z => nL (by
      have z2 := z.2.2
      rw [h1] at z2
      exact z2)
  have lst : ∀ (l : Addr) vs, fr = false → (C.F l → False) → H l = some (.lst vs) → SqL C.K (msk ⟨C.K, F, J, H, fr, [], E, Z⟩ ρ' H) l vs := fun l vs f nF h =>
    .inl (.inl (msk_mk h (no l) (fun z => nF (w.le z)) fun z => by
      have z1 : fr = true := z.1
      rw [f] at z1
      cases z1))
  cases h with
  | @dat d n =>
    cases f : fr with
    | false =>
      subst f
      exact ⟨v, rfl, Dp.ex (e1 rfl) o⟩
    | true =>
      subst f
      exact ⟨v, rfl, Dp.tx e2 (n rfl) o⟩
  | own n =>
    subst n
    obtain ⟨rfl, h1, vs, h2, h3⟩ := o
    exact ⟨_, rfl, .lst (lst _ _ rfl (rp.nF h1) h2) (DpAll.ex (e1 rfl) h3)⟩
  | new n =>
    subst n
    obtain ⟨l, vs, rfl, h1, h2, h3⟩ := o
    exact ⟨_, rfl, .lst (lst _ _ rfl (fun f => rs.ok.al rs.j f h1) h2) (DpAll.ex (Ext.trans del_le (e1 rfl)) h3)⟩
  | @k φ n =>
    rcases n with n | n
    · subst n
      exact ⟨v, rfl, φ.up (e1 rfl) o⟩
    · exact ⟨v, rfl, n _ _ _ _ o⟩

theorem args_ok {fr : Bool} {F : Addr → Prop} {J : Hp → Prop} {E : XK} {Z : Zt} {ρ' : List Kd} (rs : Rep C σ Hs ρ) (q : R C Hs H) (w : SubW C F J) (no : ∀ a, ¬ Own ρ' a) : ∀ {vs : List V} {ks ks' : List Kd}, VsOk C ρ Hs H vs ks → ArgsK fr ks ks' →
    vs.length = ks'.length ∧ ∀ (i : Nat) k, ks'[i]? = some k → SlOk C.K (msk ⟨C.K, F, J, H, fr, [], E, Z⟩ ρ' H) H ((vs.map some).getD i none) k
  | _, _, _, .nil, .nil => ⟨rfl, fun i k e => by simp at e⟩
  | _, _, _, .cons o os, .cons h hs => by
    obtain ⟨h1, h2⟩ := args_ok (E := E) (Z := Z) rs q w no os hs
    refine ⟨by simp [h1], fun i k e => ?_⟩
    cases i with
    | zero =>
      cases e
      exact arg_ok rs q w no o h
    | succ i => exact h2 i k e
theorem args_own {fr : Bool} : ∀ {ks ks' : List Kd}, ArgsK fr ks ks' → ∀ a, ¬ Own ks' a
  | _, _, .nil, a => fun ⟨i, ds, e⟩ => by simp at e
  | _, _, .cons h hs, a => fun ⟨i, ds, e⟩ => by
    cases i with
    | zero => cases h <;> cases e
    | succ i => exact args_own hs a ⟨i, ds, e⟩
/-- behind a call -/
theorem call_back {fr : Bool} {F : Addr → Prop} {J : Hp → Prop} {E : XK} {Z : Zt} (rp : Rep C σ H1 ρ) (w : SubW C F J) (ro : ROk ⟨C.K, F, J, H1, fr, [], E, Z⟩ v H' k) : R C H1 H' ∧ VOk C ρ H1 H' v k := by
  obtain ⟨⟨j, kp⟩, rv⟩ := ro
  have kp : ∀ a o, H1 a = some o → ¬ F a → H' a = some o := kp
  have r1 : R C H1 H' := by
    rcases w with ⟨rfl, rfl⟩ | ⟨rfl, rfl⟩
    · exact ⟨j, kp⟩
    · refine ⟨rp.ok.st _ _ rp.j fun a f => ?_, fun a o h _ => kp a o h id⟩
      obtain ⟨xs, e⟩ := rp.ok.ls _ _ rp.j f
      rw [e, kp a _ e id]
  refine ⟨r1, ?_⟩
  have r2 := rp.up r1
  have e1 : Ext (fsh H1 F H') (msk C ρ H') := fun a o q => by
    obtain ⟨h1, h2, h3⟩ := fsh_of q
    have frs : H1 a = none ∨ ¬ isL (H' a) := by
      cases z : H1 a with
      | none => exact .inl rfl
      | some u => exact .inr fun l => h3 ⟨by rw [z]; exact Option.some_ne_none u, l⟩
    have isl : ∀ xs, H' a = some (.lst xs) → isL (H' a) := fun xs e => by
      rw [e]
      trivial
    refine msk_mk h1 (fun ⟨i, es, e⟩ => ?_) (fun f => ?_) fun z => ?_
    · obtain ⟨vs, g1, _⟩ := rp.own_at e
      obtain ⟨ws, g2, _⟩ := r2.own_at e
      rcases frs with z | z
      · rw [z] at g1
        cases g1
      · exact z (isl _ g2)
    · obtain ⟨ws, g2⟩ := rp.ok.ls _ _ r1.1 f
      rcases frs with z | z
      · exact rp.ok.al rp.j f z
      · exact z (isl _ g2)
    · rcases frs with y | y
      · exact z.2.1 (rp.h0 y)
      · exact y z.2.2
  cases k with
  | dat d => exact Dp.ex e1 rv
  | new ds =>
    obtain ⟨l, vs, rfl, h1, h2, h3⟩ := rv
    exact ⟨l, vs, rfl, h1, h2, DpAll.ex (del_ex e1) h3⟩
  | k φ => exact φ.up e1 rv
  | un => exact False.elim rv
  | own _ _ => exact False.elim rv
/-- f(e, ..) -/
theorem e_callM {sp : Sp} {F : Addr → Prop} {J : Hp → Prop} {fr : Bool} {A : At} {ta : TA} {E : XK} {PA : List Kd → Prop} (ha : EA C ta ρ PA) (w : SubW C F J) (hm : ∀ vs H Q, SpF C.K F J fr A vs H Q E → sp vs H Q E)
    (hA : ∀ ks, PA ks → ∃ ks' S', ArgsK fr ks ks' ∧ A ks' S' noZ ∧ ∀ k, S' k → S k) : EB C (tCall sp [] E ta) ρ S := fun σ H rp Q q => ha σ H rp _ fun ks vs H1 s1 r1 o1 => by
  obtain ⟨ks', S', h1, h2, h3⟩ := hA ks s1
  have no := args_own h1
  have rp1 := rp.up r1
  obtain ⟨g1, g2⟩ := args_ok (E := E) (Z := noZ) (ρ' := ks') rp r1 w no o1 h1
  refine hm _ _ _ ⟨ks', S', noZ, h2, ⟨⟨fun H H' j a => ?_, fun H a j f => ?_, ?_, fun _ _ _ _ _ z => False.elim z⟩, ?_, fun a o h _ => h, by rw [List.length_map, List.append_nil]; exact g1, fun a b l ds es ha => (no l ⟨a, ds, ha⟩).elim, fun l o => (no l o).elim, by rw [List.append_nil]; exact g2, fun p hp => by cases hp⟩, fun k v H' s2 ro => ?_⟩
  · rcases w with ⟨rfl, rfl⟩ | ⟨rfl, rfl⟩
    · exact rp.ok.st H H' j a
    · trivial
  · rcases w with ⟨rfl, rfl⟩ | ⟨rfl, rfl⟩
    · exact rp.ok.ls H a j f
    · exact False.elim f
  · rcases w with ⟨rfl, rfl⟩ | ⟨rfl, rfl⟩
    · exact rp1.j
    · trivial
  · rcases w with ⟨rfl, rfl⟩ | ⟨rfl, rfl⟩
    · exact rp1.j
    · trivial
  · obtain ⟨r2, o2⟩ := call_back rp1 w ro
    exact q k v H' (h3 k s2) (r1.trans r2) (o2.back rp.ok r1)
theorem e_call {F : Addr → Prop} {J : Hp → Prop} {fr : Bool} {A : At} {ta : TA} {E : XK} {PA : List Kd → Prop} (ha : EA C ta ρ PA) (w : SubW C F J)
    (hA : ∀ ks, PA ks → ∃ ks' S', ArgsK fr ks ks' ∧ A ks' S' noZ ∧ ∀ k, S' k → S k) : EB C (tCall (SpF C.K F J fr A) [] E ta) ρ S := e_callM ha w (fun _ _ _ h => h) hA
/-- a def of data alone, called -/
theorem e_callP {A : At} {ta : TA} {ks ks' : List Kd} {S' : Kd → Prop} {E : XK} (ha : A1 C ta ρ ks) (hk : ArgsK false ks ks') (hA : A ks' S' noZ) (hS : ∀ k, S' k → S k) : EB C (tCall (SpP C.K A) [] E ta) ρ S :=
  e_call ha (.inr ⟨rfl, rfl⟩) fun ks2 e => by
    subst e
    exact ⟨ks', S', hk, hA, hS⟩
theorem e_callW {A : At} {fr : Bool} {ta : TA} {ks ks' : List Kd} {S' : Kd → Prop} {E : XK} (ha : A1 C ta ρ ks) (hk : ArgsK fr ks ks') (hA : A ks' S' noZ) (hS : ∀ k, S' k → S k) : EB C (tCall (SpF C.K C.F C.J fr A) [] E ta) ρ S :=
  e_call ha (.inl ⟨rfl, rfl⟩) fun ks2 e => by
    subst e
    exact ⟨ks', S', hk, hA, hS⟩
end
end Mh
namespace Mh
open PySem L2 TL
/-! ### what a comprehension walks, and what it makes -/
structure ItY (C : Ct) (ρ : List Kd) (Hs : Hp) (J : It) (ds : List PyData) : Prop where
  stop : ∀ H n, R C Hs H → ds.length ≤ n → J.stop n H
  go : ∀ H n, R C Hs H → n < ds.length → J.go n H
  yld : ∀ H n x H', R C Hs H → n < ds.length → J.yld n H x H' → H' = H ∧ ∃ b, ds[n]? = some b ∧ Dp C.K (msk C ρ H) x b
def EI (C : Ct) (wi : TI) (ρ : List Kd) (ds : List PyData) : Prop :=
  ∀ (σ : L2.St) (H : Hp), Rep C σ H ρ → ∀ W : It → Hp → Prop, (∀ J H', R C H H' → ItY C ρ H' J ds → W J H') → wi σ H W
section
variable {C : Ct} {σ : L2.St} {H H' H1 H2 Hs : Hp} {ρ : List Kd} {v : V} {k x y z : Kd} {l : Addr} {d e : PyData} {ds es : List PyData} {ta tb te : TE} {tt : TT} {t u : TS} {i j : Nat} {S S1 S2 : Kd → Prop} {P P' : Po}
theorem ity_l {a : Addr} (up : ∀ H, R C Hs H → ∃ b xs, V.ref a = .ref b ∧ SqL C.K H b xs ∧ DpAll C.K (msk C ρ H) xs ds) : ItY C ρ Hs (Itl C.K a) ds where
  stop := fun H n r h => by
    obtain ⟨b, xs, e, h1, h2⟩ := up H r
    cases e
    exact ⟨xs, h1, by rw [h2.length]; exact h⟩
  go := fun H n r h => by
    obtain ⟨b, xs, e, h1, h2⟩ := up H r
    cases e
    have hl := h2.length
    exact ⟨xs, xs[n]'(by omega), h1, List.getElem?_eq_getElem _⟩
  yld := fun H n x H' r h y => by
    obtain ⟨b, xs, e, h1, h2⟩ := up H r
    cases e
    obtain ⟨u, g1, g2⟩ := h2.getd (i := n) (d := ds[n]) (List.getElem?_eq_getElem _)
    have q := y.2 xs h1
    rw [g1] at q
    cases q
    exact ⟨y.1, ds[n], List.getElem?_eq_getElem _, g2⟩
theorem ity_t {a : Addr} (up : ∀ H, R C Hs H → ∃ b xs, V.ref a = .ref b ∧ SqT C.K H b xs ∧ DpAll C.K (msk C ρ H) xs ds) : ItY C ρ Hs (Itt C.K a) ds where
  stop := fun H n r h => by
    obtain ⟨b, xs, e, h1, h2⟩ := up H r
    cases e
    exact ⟨xs, h1, by rw [h2.length]; exact h⟩
  go := fun H n r h => by
    obtain ⟨b, xs, e, h1, h2⟩ := up H r
    cases e
    have hl := h2.length
    exact ⟨xs, xs[n]'(by omega), h1, List.getElem?_eq_getElem _⟩
  yld := fun H n x H' r h y => by
    obtain ⟨b, xs, e, h1, h2⟩ := up H r
    cases e
    obtain ⟨u, g1, g2⟩ := h2.getd (i := n) (d := ds[n]) (List.getElem?_eq_getElem _)
    have q := y.2 xs h1
    rw [g1] at q
    cases q
    exact ⟨y.1, ds[n], List.getElem?_eq_getElem _, g2⟩
theorem i_list (hl : E1 C te ρ k) (e : datK k = some (.list ds)) : EI C (iAny C.K te) ρ ds := fun σ H r W q => hl σ H r _ fun k' v H1 s1 r1 o1 => by
  subst s1
  have up : ∀ H, R C H1 H → ∃ a xs, v = .ref a ∧ SqL C.K H a xs ∧ DpAll C.K (msk C ρ H) xs ds := fun H2 r2 => (o1.up r r2).lsq e
  obtain ⟨a, xs, rfl, h1, h2⟩ := up H1 (R.refl r1.1)
  exact .inl ⟨a, rfl, ⟨xs, h1⟩, q _ _ r1 (ity_l up)⟩
theorem i_tup (hl : E1 C te ρ (.dat (.tuple ds))) : EI C (iAny C.K te) ρ ds := fun σ H r W q => hl σ H r _ fun k' v H1 s1 r1 o1 => by
  subst s1
  have up : ∀ H, R C H1 H → ∃ a xs, v = .ref a ∧ SqT C.K H a xs ∧ DpAll C.K (msk C ρ H) xs ds := fun H2 r2 => by
    have o2 : VOk C ρ H H2 v (.dat (.tuple ds)) := o1.up r r2
    obtain ⟨a, xs, e1, h1, h2⟩ := dp_tup o2
    exact ⟨a, xs, e1, Ext.t msk_le h1, h2⟩
  obtain ⟨a, xs, rfl, h1, h2⟩ := up H1 (R.refl r1.1)
  exact .inr (.inl ⟨a, rfl, ⟨xs, h1⟩, q _ _ r1 (ity_t up)⟩)
def signs (z : Str) : List PyData := (TL.tl z).map fun c => .str ⟨#[c]⟩
theorem i_str {z : Str} (hl : E1 C te ρ (.dat (.str z))) : EI C (iAny C.K te) ρ (signs z) := fun σ H r W q => hl σ H r _ fun k' v H1 s1 r1 o1 => by
  subst s1
  obtain rfl := dp_str o1
  have hn : (signs z).length = z.cps.size := by simp [signs, TL.tl]
  refine .inr (.inr ⟨z, rfl, q _ _ r1 ⟨fun H n _ h => by rw [hn] at h; exact h, fun H n _ h => by rw [hn] at h; exact h, fun H n x H' _ h y => ?_⟩⟩)
  obtain ⟨e1, c, e2, rfl⟩ := y
  refine ⟨e1, .str ⟨#[c]⟩, ?_, .str _⟩
  show ((TL.tl z).map _)[n]? = _
  rw [List.getElem?_map, Array.getElem?_toList, e2]
  rfl
def intsL (lo : Int) (m : Nat) : List PyData := (List.range m).map fun n => .int (lo + (n : Nat))
theorem intsL_at {lo : Int} {m n : Nat} (h : n < m) : (intsL lo m)[n]? = some (.int (lo + (n : Nat))) := by
  unfold intsL
  rw [List.getElem?_map, List.getElem?_range h]
  rfl
theorem intsL_len (lo : Int) (m : Nat) : (intsL lo m).length = m := by simp [intsL]
theorem ity_r {lo : Int} {m : Nat} : ItY C ρ Hs (Itr lo m) (intsL lo m) := ⟨fun H n _ h => by rw [intsL_len] at h; exact h, fun H n _ h => by rw [intsL_len] at h; exact h, fun H n x H' _ h y => by
  rw [intsL_len] at h
  obtain ⟨e1, rfl⟩ := y
  exact ⟨e1, _, intsL_at h, .int _⟩⟩
theorem i_rng1 {ta : TA} {m : Int} (h : A1 C ta ρ [.dat (.int m)]) (h1 : -(2 ^ 62) ≤ m ∧ m < 2 ^ 62) : EI C (iRng1 ta) ρ (intsL 0 m.toNat) := fun σ H r W q => w_rng1 h h1 σ H r W fun H' r1 => q _ _ r1 ity_r
theorem i_rng2 {ta : TA} {a m : Int} (h : A1 C ta ρ [.dat (.int a), .dat (.int m)]) (h0 : -(2 ^ 62) ≤ a ∧ a < 2 ^ 62) (h1 : -(2 ^ 62) ≤ m ∧ m < 2 ^ 62) : EI C (iRng2 ta) ρ (intsL a (m - a).toNat) :=
  fun σ H r W q => w_rng2 h h0 h1 σ H r W fun H' r1 => q _ _ r1 ity_r
/-- a slot forgotten -/
theorem own_un {a : Addr} (h : Own (ρ.set i .un) a) : Own ρ a := by
  rcases own_set h with ⟨ds, e⟩ | h
  · cases e
  · exact h
theorem msk_un : Ext (msk C ρ H) (msk C (ρ.set i .un) H) := fun a o h => by
  obtain ⟨h1, h2, h3, h4⟩ := msk_of h
  exact msk_mk h1 (fun z => h2 (own_un z)) h3 h4
theorem Rep.set_un {o : Option V} (r : Rep C σ H ρ) : Rep C (σ.set i o) H (ρ.set i .un) where
  ok := r.ok
  j := r.j
  old := r.old
  len := by rw [List.length_set, List.length_set, r.len]
  nd := fun a b l ds es ha hb => by
    have q : ∀ {a : Nat} {ds}, (ρ.set i Kd.un)[a]? = some (Kd.own l ds) → ρ[a]? = some (Kd.own l ds) := fun {a ds} ha => by
      by_cases hj : i = a
      · subst hj
        by_cases hl : i < ρ.length
        · rw [List.getElem?_set_self hl] at ha
          cases ha
        · rw [List.getElem?_eq_none (by simpa using hl)] at ha
          cases ha
      · rw [List.getElem?_set_ne hj] at ha
        exact ha
    exact r.nd a b l ds es (q ha) (q hb)
  fr := fun l o => r.fr l (own_un o)
  sl := fun j k' e => by
    by_cases hj : i = j
    · subst hj
      by_cases hl : i < ρ.length
      · rw [List.getElem?_set_self hl] at e
        cases e
        trivial
      · rw [List.getElem?_eq_none (by simpa using hl)] at e
        cases e
    · rw [List.getElem?_set_ne hj] at e
      rw [getD_set_ne hj]
      exact (r.sl j k' e).ex msk_un fun _ _ _ => rfl
  pn := fun p hp => Dp.ex msk_un (r.pn p hp)
/-- what an element may be: data without lists, a new list of such -/
def EltK (N : PyData → Prop) : Kd → Prop
  | .dat d => nl d = true ∧ N d
  | .new ds => nlL ds = true ∧ N (.list ds)
  | _ => False
theorem dp_del {D : Addr} (n : nl d = true) (hD : ∃ xs, H D = some (.lst xs)) (h : Dp C.K (msk C ρ H) v d) : Dp C.K (del D (msk C ρ H)) v d := Dp.tx (fun a o q nL => del_mk q fun e => by
  obtain ⟨xs, hx⟩ := hD
  have h1 := (msk_of q).1
  rw [e, hx] at h1
  cases h1
  exact nL trivial) n h
theorem dpl_del {D l : Addr} {vs : List V} (n : nlL ds = true) (hD : ∃ xs, H D = some (.lst xs)) (h : DpAll C.K (del l (msk C ρ H)) vs ds) : DpAll C.K (del D (msk C ρ H)) vs ds := DpAll.tx (fun a o q nL => del_mk (del_le _ _ q) fun e => by
  obtain ⟨xs, hx⟩ := hD
  have h1 := (msk_of (del_le _ _ q)).1
  rw [e, hx] at h1
  cases h1
  exact nL trivial) n h
def notOwn : Option Kd → Bool
  | some (.own _ _) => false
  | _ => true
theorem own_turn {a : PyData} {b : Addr} (h : notOwn ρ[j]? = true) : Own ((ρ.set j .un).set j (.dat a)) b ↔ Own ρ b := by
  constructor
  · intro z
    exact own_un (own_plain rfl z)
  · rintro ⟨i, es, e⟩
    have hj : j ≠ i := fun q => by
      subst q
      rw [e] at h
      cases h
    exact ⟨i, es, by rw [List.getElem?_set_ne hj, List.getElem?_set_ne hj]; exact e⟩
/-- [elt for x in .. if ..] -/
theorem e_lcG {wi : TI} {T : Nat → PyData → List PyData → Bool → Prop} (hw : EI C wi ρ ds) (hj : notOwn ρ[j]? = true) (I : Nat → List PyData → Prop) (h0 : I 0 []) (hz : ∀ n acc, I n acc → acc.length ≤ n) (hds : ds.length ≤ sizeLine)
    (ht : ∀ (n : Nat) a acc, ds[n]? = some a → I n acc → ET C tt ((ρ.set j .un).set j (.dat a)) (T n a acc))
    (hf : ∀ (n : Nat) a acc, ds[n]? = some a → I n acc → T n a acc false → I (n + 1) acc)
    (he : ∀ (n : Nat) a acc, ds[n]? = some a → I n acc → T n a acc true → EB C te ((ρ.set j .un).set j (.dat a)) (EltK fun d => I (n + 1) (acc ++ [d]))) :
    EB C (tLc wi (gName j) tt te [j]) ρ fun z => ∃ acc, z = .new acc ∧ I ds.length acc := fun σ H r Q q => hw σ H r _ fun J H1 r1 y D hD => by
  have rp1 := r.up r1
  have nD : H D = none := r1.back r.ok hD
  have nDF : ¬ C.F D := fun f => r.ok.al r1.1 f hD
  -- the word
  let Wd : Nat → Hp → Prop := fun n H' => R C H1 H' ∧ ∃ acc vs, I n acc ∧ H' D = some (.lst vs) ∧ DpAll C.K (del D (msk C ρ H')) vs acc
  refine ⟨fun n m H' => m = ds.length - n ∧ n ≤ ds.length ∧ Wd n H', ⟨_, rfl, Nat.zero_le _, R.new r.ok r1.1 hD, [], [], h0, upd_same, .nil⟩, ?_⟩
  rintro n m H' ⟨rfl, hn, r2, acc, vs, hI, hDl, ha⟩
  by_cases hlt : n < ds.length
  · refine .inr ⟨y.go H' n r2 hlt, Wd (n + 1), fun H'' w => ⟨_, by omega, rfl, hlt, w⟩, fun xv Hx yl => ?_⟩
    obtain ⟨eH, a, ea, hx⟩ := y.yld H' n xv Hx r2 hlt yl
    subst eH
    have rw1 : Rep C (wipe σ [j]) Hx (ρ.set j .un) := (rp1.up r2).set_un
    have rs : Rep C ((wipe σ [j]).set j (some xv)) Hx ((ρ.set j .un).set j (.dat a)) := rw1.set_plain (Hs := Hx) (k := .dat a) rfl (Dp.ex msk_un hx)
    refine ⟨by simp [wipe, List.set_set], ?_⟩
    refine ht n a acc ea hI _ Hx rs _ fun b H3 tb r3 => ?_
    -- behind a step that keeps all, the list stands with what it holds
    have stand : ∀ H4, R C Hx H4 → R C H1 H4 ∧ H4 D = some (.lst vs) ∧ DpAll C.K (del D (msk C ρ H4)) vs acc := fun H4 r4 => ⟨r2.trans r4, r4.2 _ _ hDl nDF, DpAll.ex (del_ex (msk_up r4)) ha⟩
    cases b with
    | false =>
      rw [if_neg Bool.false_ne_true]
      obtain ⟨s1, s2, s3⟩ := stand H3 r3
      exact ⟨s1, acc, vs, hf n a acc ea hI tb, s2, s3⟩
    | true =>
      rw [if_pos rfl]
      refine he n a acc ea hI tb _ H3 (rs.up r3) _ fun k u H4 hk r4 o4 => ?_
      obtain ⟨s1, s2, s3⟩ := stand H4 (r3.trans r4)
      have em : ∀ H, msk C ((ρ.set j .un).set j (.dat a)) H = msk C ρ H := fun H => msk_same fun b => own_turn hj
      have nt : ∃ xs, H4 D = some (.lst xs) := ⟨vs, s2⟩
      have e5 : Ext (del D (msk C ρ H4)) (del D (msk C ρ (upd H4 D (.lst (vs ++ [u]))))) := fun b o z => by
        obtain ⟨z1, z2⟩ := del_of z
        obtain ⟨h1, h2, h3, h4⟩ := msk_of z1
        have e6 : upd H4 D (.lst (vs ++ [u])) b = some o := by rw [upd_ne z2]; exact h1
        exact del_mk (msk_mk e6 h2 h3 (by rw [e6, ← h1]; exact h4)) z2
      have fin : ∀ d', Dp C.K (del D (msk C ρ H4)) u d' → I (n + 1) (acc ++ [d']) → ∃ xs, H4 D = some (.lst xs) ∧ xs.length < sizeLine ∧ Wd (n + 1) (upd H4 D (.lst (xs ++ [u]))) := fun d' hd hI' => by
        have hlen := hz n acc hI
        have hl2 := s3.length
        refine ⟨vs, s2, by omega, ⟨r.ok.st _ _ s1.1 fun b f => upd_ne fun e => nDF (e ▸ f), fun b o z f => ?_⟩, acc ++ [d'], vs ++ [u], hI', upd_same, DpAll.ex e5 (s3.append (.cons hd .nil))⟩
        rw [upd_ne fun e => by rw [e, hD] at z; cases z]
        exact s1.2 b o z f
      cases k with
      | dat d' =>
        have o5 : Dp C.K (msk C ((ρ.set j .un).set j (.dat a)) H4) u d' := o4
        rw [em] at o5
        exact fin d' (dp_del hk.1 nt o5) hk.2
      | new es =>
        obtain ⟨l, ws, rfl, g1, g2, g3⟩ := o4
        rw [em] at g3
        have nl : l ≠ D := fun e => by
          have z := (stand H3 r3).2.1
          rw [← e, g1] at z
          cases z
        refine fin (.list es) (.lst (.inl (.inl (del_mk (msk_mk g2 (fun ⟨i, fs, e⟩ => ?_) (fun f => (rs.up r3).ok.al r3.1 f g1) fun z => z.2.1 ?_) nl))) (dpl_del hk.1 nt g3)) hk.2
        · obtain ⟨xs, g4, _⟩ := (rp1.up (r2.trans r3)).own_at e
          rw [g1] at g4
          cases g4
        · exact (rp1.up (r2.trans r3)).h0 g1
      | _ => exact False.elim hk
  · have en : n = ds.length := by omega
    subst en
    refine .inl ⟨y.stop H' _ r2 (Nat.le_refl _), q _ _ _ ⟨acc, rfl, hI⟩ (r1.trans r2) ⟨D, vs, rfl, nD, hDl, ha⟩⟩

/-- [elt for x in .. if ..], the test's word of the item alone -/
theorem e_lc {wi : TI} {T : PyData → Bool → Prop} (hw : EI C wi ρ ds) (hj : notOwn ρ[j]? = true) (I : Nat → List PyData → Prop) (h0 : I 0 []) (hz : ∀ n acc, I n acc → acc.length ≤ n) (hds : ds.length ≤ sizeLine)
    (ht : ∀ (n : Nat) a acc, ds[n]? = some a → I n acc → ET C tt ((ρ.set j .un).set j (.dat a)) (T a))
    (hf : ∀ (n : Nat) a acc, ds[n]? = some a → I n acc → T a false → I (n + 1) acc)
    (he : ∀ (n : Nat) a acc, ds[n]? = some a → I n acc → T a true → EB C te ((ρ.set j .un).set j (.dat a)) (EltK fun d => I (n + 1) (acc ++ [d]))) :
    EB C (tLc wi (gName j) tt te [j]) ρ fun z => ∃ acc, z = .new acc ∧ I ds.length acc := e_lcG (T := fun _ a _ => T a) hw hj I h0 hz hds ht hf he
theorem t_yes : T1 C tYes ρ true := fun σ H r Q q => q true H rfl (R.refl r.j)
theorem take_succ_of {a : PyData} {n : Nat} (h : ds[n]? = some a) : ds.take (n + 1) = ds.take n ++ [a] := by
  rw [List.take_succ, h]
  rfl
/-- [f(x) for x in ..] -/
theorem e_lcMap {wi : TI} (f : PyData → PyData) (hw : EI C wi ρ ds) (hj : notOwn ρ[j]? = true) (hds : ds.length ≤ sizeLine)
    (he : ∀ (n : Nat) a, ds[n]? = some a → E1 C te ((ρ.set j .un).set j (.dat a)) (.dat (f a)) ∧ nl (f a) = true) : E1 C (tLc wi (gName j) tYes te [j]) ρ (.new (ds.map f)) := by
  have q := e_lc (C := C) (tt := tYes) (T := fun _ b => b = true) hw hj (fun n acc => acc = (ds.take n).map f) rfl (fun n acc e => by rw [e, List.length_map, List.length_take]; omega) hds
    (fun n a acc _ _ => t_yes) (fun n a acc _ _ z => by cases z) (te := te) fun n a acc ea hI _ => by
      obtain ⟨h1, h2⟩ := he n a ea
      refine h1.imp fun k e => ?_
      subst e
      exact ⟨h2, by rw [hI, take_succ_of ea, List.map_append]; rfl⟩
  refine q.imp fun k ⟨acc, e, hI⟩ => ?_
  rw [e, hI, List.take_length]
/-- [f(x) for x in .. if p(x)] -/
theorem e_lcFil {wi : TI} (f : PyData → PyData) (p : PyData → Bool) (hw : EI C wi ρ ds) (hj : notOwn ρ[j]? = true) (hds : ds.length ≤ sizeLine)
    (ht : ∀ (n : Nat) a, ds[n]? = some a → T1 C tt ((ρ.set j .un).set j (.dat a)) (p a))
    (he : ∀ (n : Nat) a, ds[n]? = some a → p a = true → E1 C te ((ρ.set j .un).set j (.dat a)) (.dat (f a)) ∧ nl (f a) = true) : E1 C (tLc wi (gName j) tt te [j]) ρ (.new ((ds.filter p).map f)) := by
  have q := e_lc (C := C) (tt := tt) (T := fun a b => b = p a) hw hj (fun n acc => acc = ((ds.take n).filter p).map f) rfl (fun n acc e => by
      rw [e, List.length_map]
      exact Nat.le_trans (List.length_filter_le _ _) (by rw [List.length_take]; omega)) hds
    (fun n a acc ea _ => ht n a ea) (fun n a acc ea hI z => by
      rw [hI, take_succ_of ea, List.filter_append]
      simp [← z]) (te := te) fun n a acc ea hI z => by
      obtain ⟨h1, h2⟩ := he n a ea z.symm
      refine h1.imp fun k e => ?_
      subst e
      exact ⟨h2, by rw [hI, take_succ_of ea, List.filter_append]; simp [← z]⟩
  refine q.imp fun k ⟨acc, e, hI⟩ => ?_
  rw [e, hI, List.take_length]
end
end Mh
namespace Mh
open PySem PySem.Spec PyProof.Rows L2 TL
/-! ### defs that want to know that no repr runs around them (g) -/
structure FnG (P : Program) (w : World) (K : PySem.W.Frag) (mg : Str → Option Value) (base : Heap) (CX : CXT) (g : Bool) (k : Nat) (f : Addr) (fd : FuncData) (ps : List Str) (sp : Sp) : Prop where
  len : ∀ vs H Q E, sp vs H Q E → vs.length = ps.length
  run : ∀ (A : Around) (outer : List Env) (s : Shared) (H : Hp) (args : Args) (us : List Value) (vs : List V) (Q : VK) (E : XK), Room k A → (g = true → A.guards = some []) → Env0 P w K mg base A outer s H →
    BindsTo s fd args (ps.zip us) → Vals vs us → sp vs H Q E → codeAny (model P w) A (.call (.ref f) args) (CR CX outer P w H s Q E) s
section
variable {P : Program} {w : World} {K : PySem.W.Frag} {mg : Str → Option Value} {base : Heap} {CX : CXT} {g : Bool} {k : Nat} {f : Addr} {fd : FuncData} {ps N : List Str} {sp : Sp}
theorem FnG.of_ok (F : FnOk P w K mg base CX k f fd ps sp) : FnG P w K mg base CX g k f fd ps sp := ⟨F.len, fun A outer s H args us vs Q E hr _ => F.run A outer s H args us vs Q E hr⟩
theorem FnG.mono {j : Nat} (F : FnG P w K mg base CX g j f fd ps sp) (h : j ≤ k) : FnG P w K mg base CX g k f fd ps sp := ⟨F.len, fun A outer s H args us vs Q E hr => F.run A outer s H args us vs Q E (hr.mono h)⟩
/-- a def by its body -/
theorem fnG {name qual : Str} {params : Arguments} {body : List Stmt} {scope : Scope} {dV kV doc pm cdv ct oc : Value} {an od : Option Addr} {osl : Array (Option Value)}
    (there : K.lookup f = some ⟨oc, od, .func (PySem.W.fnOf name qual params body scope dV kV doc pm an cdv ct), osl⟩) (code : PySem.W.codeIn K cdv qual = true) (sc : FnScope N ps scope) (len : ∀ vs H Q E, sp vs H Q E → vs.length = ps.length)
    (hb : ∀ (A : Around) (outer : List Env) (s : Shared) (H : Hp) (vs : List V) (Q : VK) (E : XK), Room k (A.deeper (envOfC qual scope s.heap.objs.size f cdv)) → (g = true → (A.deeper (envOfC qual scope s.heap.objs.size f cdv)).guards = some []) → sp vs H Q E →
      ∃ t, PSs (cxOf CX P w K mg base N qual scope f cdv A outer s H E) body t ∧ t { nx := fun _ H' => Q .non H', rt := Q } (L2.start N vs) H) :
    FnG P w K mg base CX g (k + 1) f (PySem.W.fnOf name qual params body scope dV kV doc pm an cdv ct) ps sp := ⟨len, fun A outer s H args us vs Q E room gd env bind vals prom => by
  have size := len _ _ _ _ prom
  have stands : K.In s.heap := env.mod.kin.keeps fun a o e => (env.bs a o e).1
  have free : s.heap.NoLimit := env.mod.nolimit.keeps fun a o e => (env.bs a o e).1
  have kinds : ∀ y ∈ ps.zip us, scope.names.lookup y.1 = some .local ∨ (scope.names.lookup y.1 = some .cell ∧ ((cellsFrom (s.heap.objs.size + 1) scope.names []).lookup y.1).isSome = true) := by
    rintro ⟨n, u⟩ hy
    exact (sc.par n (List.of_mem_zip hy).1).imp id fun q => ⟨q, PySem.W.cellsFrom_some _ _ _ (.inl q)⟩
  refine codeAny_call_function room.depth (stands _ _ there) rfl sc.co sc.gen rfl (PySem.W.codeRec_of stands code) (bind _ _ _ _ (wpAny_newFunctionEnv_cells sc.kind kinds fun env' same s1 entered => ?_))
  subst same
  obtain ⟨t, body', reads⟩ := hb A outer s H vs Q E (room.deeper _) gd prom
  have I0 : Inv (cxOf CX P w K mg base N qual scope f cdv A outer s H E) [] (L2.start N vs) H s1 := inv_start sc room.hd env size vals entered
  refine ⟨free.keeps entered.toInCall.keep, codeAny_func (wpAny_mono (body'.run [] s1 (L2.start N vs) H _ I0 reads) (fun flow s' out => ?_) fun _ _ out => out)⟩
  cases flow with
  | next =>
    obtain ⟨_, H', J, q⟩ := out
    exact ⟨.non, H', J.os, J.bare, J.base, J.hok, rfl, q⟩
  | ret u =>
    obtain ⟨v, _, H', J, rv, q⟩ := out
    exact ⟨v, H', J.os, J.bare, J.base, J.hok, rv, q⟩
  | brk => exact out.choose_spec.choose_spec.2.elim
  | cont => exact out.choose_spec.choose_spec.2.elim⟩
end
section
variable {X : Cx} {CX : CXT} {g : Bool} {k : Nat} {f C : Addr} {fd : FuncData} {ps : List Str} {sp : Sp} {E : XK} {x : Str} {p pos : Pos} {e : Expr} {es : List Expr} {t : TA}
theorem run_g {pins : List (Addr × Obj)} {σ : L2.St} {H : Hp} {s : Shared} {Q : VK} {us : List Value} {vs : List V} (F : FnG X.prog X.w X.K X.mg X.base CX g k f fd ps sp) (room : Room k X.A) (gd : g = true → X.A.guards = some []) (bind : Binds X.K fd ps [])
    (pass : Passes CX X E) (I : Inv X pins σ H s) (vals : Vals vs us) (prom : sp (vs ++ []) H Q E) : wpAny (model X.prog X.w) X.A (call (.ref f) us) (EP X pins σ Q) X.xe s := by
  rw [List.append_nil] at prom
  have size : (us ++ []).length = ps.length := by rw [List.append_nil, ← vals.length]; exact F.len _ _ _ _ prom
  have b := bind s us I.kIn size
  rw [List.append_nil] at b
  refine wpAny_call (codeAny_mono (F.run X.A X.stack s H ⟨us, []⟩ us vs Q E room gd I.env0 b vals prom) fun out s' h => ?_)
  match out, h with
  | .error err, h => exact pass pins σ H s err s' I h
  | .ok (.ret u), h => exact I.after h
/-- a name that stands for a def with a promise -/
structure Cl (P : Program) (w : World) (K : PySem.W.Frag) (mg : Str → Option Value) (base : Heap) (CX : CXT) (g : Bool) (x : Str) (k : Nat) (ps : List Str) (sp : Sp) : Prop where
  ex : ∃ f fd, FnG P w K mg base CX g k f fd ps sp ∧ mg x = some (.ref f) ∧ PySem.W.keepIn K (.ref f) = true ∧ Binds K fd ps []
theorem pe_cl (c : Cl X.prog X.w X.K X.mg X.base CX g x k ps sp) (room : Room k X.A) (gd : g = true → X.A.guards = some []) (pass : Passes CX X E) (gl : Gl X x) (args : PA X (e :: es) t) (h1 : (x == ("__debug__" : Str)) = false := by decide)
    (h2 : starEach (e :: es) X.env = (false, eval e X.env) :: starEach es X.env := by rfl) (h3 : (backTo pos (starEach es X.env)).any (·.1) = false := by rfl) : PE X (.Call (.Name x p) (e :: es) [] pos) (tCall sp [] E t) := ⟨fun pins s σ H Q I want => by
  obtain ⟨f, fd, F, m, keep, bind⟩ := c.ex
  refine wpAny_Call_Name_kw (ld_glob I gl m (PySem.W.callWith_K (h₀ := X.base) I.ok.mod.kin keep (thn (args.run pos pins s σ H _ I want) ?_) h2 h3) h1)
  rintro us s1 ⟨vs, H1, I1, vals, prom⟩
  exact ⟨I1.kIn, run_g F room gd bind pass I1 vals prom⟩⟩
theorem pe_cl0 (c : Cl X.prog X.w X.K X.mg X.base CX g x k ps sp) (room : Room k X.A) (gd : g = true → X.A.guards = some []) (pass : Passes CX X E) (gl : Gl X x) (h1 : (x == ("__debug__" : Str)) = false := by decide) : PE X (.Call (.Name x p) [] [] pos) (tCall sp [] E tNil) := ⟨fun pins s σ H Q I want => by
  obtain ⟨f, fd, F, m, keep, bind⟩ := c.ex
  exact wpAny_Call_Name_kw (ld_glob I gl m (PySem.W.callWith_K0 I.kIn keep (run_g (us := []) F room gd bind pass I .nil want)) h1)⟩
end
section
variable {P : Program} {w : World} {K : PySem.W.Frag} {mg : Str → Option Value} {base : Heap} {CX : CXT} {g : Bool} {k : Nat} {f : Addr} {fd : FuncData} {ps N : List Str} {sp : Sp} {x qual : Str} {params : Arguments} {body : List Stmt} {scope : Scope}
theorem fn_ofG (F : FunD K x qual params body scope [] [] f fd) (sc : FnScope N ps scope) (len : ∀ vs H Q E, sp vs H Q E → vs.length = ps.length)
    (hb : ∀ (cdv : Value) (A : Around) (outer : List Env) (s : Shared) (H : Hp) (vs : List V) (Q : VK) (E : XK), Room k (A.deeper (envOfC qual scope s.heap.objs.size f cdv)) → (g = true → (A.deeper (envOfC qual scope s.heap.objs.size f cdv)).guards = some []) → sp vs H Q E →
      ∃ t, PSs (cxOf CX P w K mg base N qual scope f cdv A outer s H E) body t ∧ t { nx := fun _ H' => Q .non H', rt := Q } (L2.start N vs) H) : FnG P w K mg base CX g (k + 1) f fd ps sp := by
  obtain ⟨oc, od, dV, kV, doc, pm, an, cdv, ct, osl, rfl, there, code, _, _⟩ := F.ex
  exact fnG there code sc len fun A outer s H vs Q E room gd prom => hb cdv A outer s H vs Q E room gd prom
/-- THE RULE: a def without defaults, by its body -/
theorem cl_of (F : FunD K x qual params body scope [] [] f fd) (m : mg x = some (.ref f)) (sc : FnScope N ps scope) (len : ∀ vs H Q E, sp vs H Q E → vs.length = ps.length)
    (bind : ∀ (kV doc pm : Value) (an : Option Addr) (cdv ct : Value) (us : List Value), us.length = ps.length → bindArgs (PySem.W.fnOf x qual params body scope .none kV doc pm an cdv ct) ⟨us, []⟩ = pure (ps.zip us))
    (hb : ∀ (cdv : Value) (A : Around) (outer : List Env) (s : Shared) (H : Hp) (vs : List V) (Q : VK) (E : XK), Room k (A.deeper (envOfC qual scope s.heap.objs.size f cdv)) → (g = true → (A.deeper (envOfC qual scope s.heap.objs.size f cdv)).guards = some []) → sp vs H Q E →
      ∃ t, PSs (cxOf CX P w K mg base N qual scope f cdv A outer s H E) body t ∧ t { nx := fun _ H' => Q .non H', rt := Q } (L2.start N vs) H) : Cl P w K mg base CX g x (k + 1) ps sp := by
  have b : Binds K fd ps [] := F.bindsN bind
  have kp := F.kp
  obtain ⟨oc, od, dV, kV, doc, pm, an, cdv, ct, osl, rfl, there, code, _, _⟩ := F.ex
  exact ⟨f, _, fnG there code sc len fun A outer s H vs Q E room gd prom => hb cdv A outer s H vs Q E room gd prom, m, kp, b⟩
/-! ### the law's def, from outside -/
theorem law_runs {mb : Str → Option Value} {fa a : Addr} {x : Str} {s₁ : Shared} {vs : List Value} {ns : List Int} (stands : K.In s₁.heap) (glob : s₁.heap.Ns mainGlobals mg) (blt : s₁.heap.Ns builtinsNs mb) (bltIs : ∀ x : Str, x ≠ "__name__" → mb x = bootBuiltins x)
    (free : s₁.heap.NoLimit) (noGen : s₁.gens = #[]) (scr : s₁.heap.get? a = some { cls := .type "list", data := .seq vs.toArray }) (are : IntsAre vs ns) (short : ns.length ≤ sizeLine) (room : Room k callerA)
    (F : ∀ base : Heap, K.In base → base.Ns mainGlobals mg → FnG P w K mg base CX g k fa fd [x] sp) (bind : ∀ (s : Shared) (u : Value), BindsTo s fd ⟨[u], []⟩ [(x, u)])
    (prom : ∀ H : Hp, Only H → SqL K H a (ns.map V.int) → sp [.ref a] H (fun v _ => v = .bl true) fun _ _ _ => False) (never : ∀ H e s', CX [] H s₁ (fun _ _ _ => False) e s' → False) :
    codeAny (model P w) callerA (.call (.ref fa) ⟨[.ref a], []⟩) (fun r s' => r = .ok (.ret (.bool true)) ∧ OldK s₁.heap s'.heap ∧ s'.os = s₁.os ∧ AllBare s'.gens) s₁ := by
  have vals := L2.vals_ints are
  have many := are.length
  -- the abstract heap: nothing, or the script alone
  have go : ∀ H : Hp, Only H → SqL K H a (ns.map V.int) → HOk P w H s₁.heap → (∀ b, H b ≠ none → b = a ∧ K.lookup a = none) →
      codeAny (model P w) callerA (.call (.ref fa) ⟨[.ref a], []⟩) (fun r s' => r = .ok (.ret (.bool true)) ∧ OldK s₁.heap s'.heap ∧ s'.os = s₁.os ∧ AllBare s'.gens) s₁ := fun H only seq held alone => by
    have out : ∀ {b : Addr}, (b ≠ a ∨ ∃ o, K.lookup b = some o) → H b = none := fun {b} h => by
      cases e : H b with
      | none => rfl
      | some u =>
        obtain ⟨h1, h2⟩ := alone b (by rw [e]; exact Option.some_ne_none u)
        rcases h with h | ⟨o, h⟩
        · exact absurd h1 h
        · rw [h1, h2] at h
          cases h
    have ns : ∀ {b : Addr} {m : Str → Option Value}, s₁.heap.Ns b m → (hidT s₁.heap H).Ns b m := fun {b m} h => by
      obtain ⟨o, es, ep, h1, h2, h3⟩ := h
      refine ⟨o, es, ep, hidT_get h1 (out (.inl fun e => ?_)), h2, h3⟩
      rw [e, scr] at h1
      cases h1
      have h2' : Data.seq vs.toArray _ = Data.dict es ep := h2
      cases h2'
    have standsB : K.In (hidT s₁.heap H) := fun b o e => hidT_get (stands b o e) (out (.inr ⟨o, e⟩))
    have env : Env0 P w K mg (hidT s₁.heap H) callerA [] s₁ H := {
      frames := rfl
      mod := ⟨standsB, ns glob, ⟨mb, ns blt, bltIs⟩, free.imp fun mc h => ⟨ns h.1, h.2⟩⟩
      bs := fun b o e => of_hidT e
      bsz := Nat.le_of_eq (hidT_size _ _)
      funs := trivial
      frf := fun b hb => by cases hb
      hok := held
      bare := .of_eq noGen }
    refine codeAny_mono ((F _ standsB (ns glob)).run callerA [] s₁ H ⟨[.ref a], []⟩ [.ref a] [.ref a] _ _ room (fun _ => rfl) env (bind s₁ (.ref a)) (.cons rfl .nil) (prom H only seq)) fun r s' h => ?_
    match r, h with
    | .error e, h => exact (never H e s' h).elim
    | .ok (.ret u), h =>
      obtain ⟨v, H', os, bare, un, held', rel, q⟩ := h
      have q : v = .bl true := q
      subst q
      have rel : u = Value.bool true := rel
      refine ⟨by rw [rel], OldK.of_keep fun b o e => ?_, os, bare⟩
      rcases only b with z | ⟨ob, xs, z⟩
      · exact un.keep b o e z (fun y => by cases y) (fun y => by cases y)
      · have h1 := (held b _ z).1
        have h2 := (held' b _ (un.frzs b ob _ z)).1
        rw [h1] at e
        cases e
        exact h2
  cases own : K.lookup a with
  | some o =>
    have same := stands a o own
    rw [scr] at same
    cases same
    exact go (fun _ => none) (fun _ => .inl rfl) (.inr ⟨_, vs.toArray, _, own, rfl, rfl, rfl, by rw [List.size_toArray, many]; exact short, by simpa using vals⟩) (fun b u z => by cases z) fun b z => absurd rfl z
  | none =>
    refine go (fun b => if b = a then some (.frz { cls := .type "list", data := .seq vs.toArray } (.lst (ns.map V.int))) else none) (fun b => ?_) (.inl (.inr ⟨_, if_pos rfl⟩)) (fun b u z => ?_) fun b z => ?_
    · by_cases hb : b = a
      · exact .inr ⟨_, _, if_pos hb⟩
      · exact .inl (if_neg hb)
    · by_cases hb : b = a
      · subst hb
        have z := Option.some.inj ((if_pos rfl).symm.trans z)
        subst z
        exact ⟨scr, by rw [List.length_map]; exact short, vs, _, vals, scr⟩
      · have z := (if_neg hb).symm.trans z
        cases z
    · by_cases hb : b = a
      · exact ⟨hb, own⟩
      · exact absurd (if_neg hb) z
theorem walk_g {l : PySem.W.OpenLaw} {n k : Nat} {q : Program} {loose : List Str} {XP : (Str → Option Value) → Heap → Prop} {YP : World → Heap → Prop} {d : DefRec} {CX : CXT} {x : Str} (most : l.most = some n) (short : n ≤ sizeLine) (plain : d.params.defaults = []) (room : Room k callerA)
    (F : ∀ (w : World) (mg : Str → Option Value) (fa : Addr) (h : Heap), YP w h → h.Ns mainGlobals mg → mg d.name = some (.ref fa) →
      ∃ (K : PySem.W.Frag) (fd : FuncData) (sp : Sp), K.In h ∧ (∀ (s : Shared) (u : Value), BindsTo s fd ⟨[u], []⟩ [(x, u)]) ∧
        (∀ (H : Hp) (a : Addr) (ns : List Int), ns.length ≤ n → (∀ z ∈ ns, Builtin.Int.intBits z ≤ 1048576) → Only H → SqL K H a (ns.map V.int) → sp [.ref a] H (fun v _ => v = .bl true) fun _ _ _ => False) ∧
        ∀ base : Heap, K.In base → base.Ns mainGlobals mg → FnG l.prog w K mg base CX g k fa fd [x] sp)
    (never : ∀ (H : Hp) (s : Shared) (e : Value) (s' : Shared), CX [] H s (fun _ _ _ => False) e s' → False) : PySem.W.WalkO q loose XP YP l.row.toRowW d [] (fun f vs => PySem.call f vs) :=
  Att.attach_callB most plain fun w s₀ s₁ mg mb fa o pm cd doc a vs ns G Y _ _ _ isF scr are len bits noGen => by
    obtain ⟨K, fd, sp, stands, bind, prom, hF⟩ := F w mg fa _ Y G.T.g isF
    exact law_runs stands G.T.g G.T.b G.T.builtins G.T.nolimit noGen scr are (Nat.le_trans len short) room hF bind (fun H only seq => prom H a ns len bits only seq) fun H e s' => never H s₁ e s'
end
end Mh
namespace Mh
open PySem PySem.Spec PyProof.Rows L2 TL
/-! ### repr of data -/
mutual
def rlen : PyData → Nat
  | .none => 4
  | .bool _ => 5
  | .int i => ((toString i : String) : Str).length
  | .str x => 10 * x.length + 2
  | .list xs => rlenAll xs + 3
  | .tuple xs => rlenAll xs + 3
  | .dict _ => 0
def rlenAll : List PyData → Nat
  | [] => 0
  | x :: xs => rlen x + 2 + rlenAll xs
end
theorem strOk_lt {x : Str} (h : PyData.strOk x = true) : ∀ c ∈ x.cps.toList, c < 16 ^ 8 := fun c hc => by
  unfold PyData.strOk at h
  rw [Array.all_eq_true_iff_forall_mem] at h
  have q := h c (by simpa using hc)
  have q2 : c < 0x110000 := by simpa using q
  omega
mutual
theorem shown_len : ∀ d : PyData, d.canLay0 = true → d.shown.length ≤ rlen d
  | .none, _ => by
    rw [PyData.shown_none, rlen]
    decide
  | .bool b, _ => by
    rw [PyData.shown_bool, rlen]
    cases b <;> decide
  | .int i, _ => by
    rw [PyData.shown_int, rlen]
    exact Nat.le_refl _
  | .str x, h => by
    rw [PyData.shown_str, rlen]
    exact StrLaws.reprText_len x (strOk_lt (by simpa [PyData.canLay0] using h))
  | .list xs, h => by
    have q := shownAll_len xs (by simpa [PyData.canLay0] using h)
    have q2 := listText_len_le (PyData.shownAll xs)
    rw [PyData.shownAll_length] at q2
    rw [rlen]
    simp only [PyData.shown]
    omega
  | .tuple xs, h => by
    have q := shownAll_len xs (by simpa [PyData.canLay0] using h)
    have q2 := tupleText_len_le (PyData.shownAll xs)
    rw [PyData.shownAll_length] at q2
    rw [rlen]
    simp only [PyData.shown]
    omega
  | .dict _, h => by simp [PyData.canLay0] at h
theorem shownAll_len : ∀ ds : List PyData, PyData.canLayAll0 ds = true → ((PyData.shownAll ds).map (·.length)).sum + 2 * ds.length ≤ rlenAll ds
  | [], _ => by simp [PyData.shownAll, rlenAll]
  | x :: xs, h => by
    have h2 : x.canLay0 = true ∧ PyData.canLayAll0 xs = true := by simpa [PyData.canLayAll0] using h
    have q1 := shown_len x h2.1
    have q2 := shownAll_len xs h2.2
    simp only [PyData.shownAll, rlenAll, List.map_cons, List.sum_cons, List.length_cons]
    omega
end
/-- what may be shown -/
structure ShOk (d : PyData) : Prop where
  sh : SeqAt.shaped d = true
  nums : d.showable = true
  len : rlen d ≤ 1000000
theorem ShOk.text {d : PyData} (h : ShOk d) : d.shown.length ≤ sizeLine := Nat.le_trans (shown_len d (SeqAt.canLay_of_shaped h.sh)) (Nat.le_trans h.len (by decide))
def rReprD (K : PySem.W.Frag) : List V → Hp → VK → Prop := fun xs H Q => ∃ x d, xs = [x] ∧ Dp K H x d ∧ ShOk d ∧ Q (.str d.shown) H
theorem call_reprD {X : Cx} (hu : X.A.units + 70 < cLine) (hg : X.A.guards = some []) : CallR X (.builtin "repr") (rReprD X.K) := by
  intro pins s σ H xs us Q I r h
  obtain ⟨x, d, rfl, hd, ok, q⟩ := h
  obtain ⟨u, rfl, ru⟩ := vals1 r
  have fin : ∀ (h' : Heap) (t : Tok) (tk : Nat), (∀ b o, s.heap.get? b = some o → h'.get? b = some o) → EP X pins σ Q (.str d.shown t) { s with heap := h', toks := tk } := fun h' t tk k => ⟨.str d.shown, H, I.kept (t' := tk) k, ⟨t, rfl⟩, q⟩
  have keep0 : ∀ b o, s.heap.get? b = some o → s.heap.get? b = some o := fun _ _ e => e
  cases x with
  | non =>
    cases hd
    cases ru
    refine PySem.P.repr_of_none ?_
    have z := fin s.heap s.toks (s.toks + 1) keep0
    rw [PyData.shown_none] at z
    exact z
  | bl b =>
    cases hd
    cases ru
    refine PySem.P.repr_of_bool ?_
    have z := fin s.heap s.toks (s.toks + 1) keep0
    rw [PyData.shown_bool] at z
    cases b <;> exact z
  | int i =>
    cases hd
    obtain ⟨t, rfl⟩ := ru
    have hn : i.natAbs.log2 < 1920 := by simpa [PyData.showable] using ok.nums
    refine PySem.P.repr_of_int hn ?_
    have z := fin s.heap s.toks (s.toks + 1) keep0
    rw [PyData.shown_int] at z
    exact z
  | str y =>
    cases hd
    obtain ⟨t, rfl⟩ := ru
    have hl := ok.text
    rw [PyData.shown_str] at hl
    refine PySem.P.repr_of_str ?_ hl
    have z := fin s.heap s.toks (s.toks + 1) keep0
    rw [PyData.shown_str] at z
    exact z
  | ref a =>
    obtain ⟨as, rd⟩ := L2.Dp.reads I d _ u (hd.kit (SeqAt.canLay_of_shaped ok.sh)) ru
    cases ru
    refine repr_of_reads' rd ok.nums (PyData.noDict_hsm (PyData.hasDict_of_canLay d (SeqAt.canLay_of_shaped ok.sh))) hg ?_ keep0 (fun h' t tk k => fin h' t tk k) ok.text
    have := SeqAt.depth_of_shaped ok.sh
    omega
  | byt _ => cases hd
  | flt _ => cases hd
  | ty _ => cases hd
section
variable {C : Ct} {ρ : List Kd} {k : Kd} {d : PyData} {te : TE}
theorem e_repr (h : E1 C te ρ k) (e : datK k = some d) (ok : ShOk d) : E1 C (tCB (rReprD C.K) (tCons te tNil)) ρ (.dat (.str d.shown)) := fun σ H r Q q => h σ H r _ fun k' v H1 s1 r1 o1 => by
  subst s1
  exact ⟨v, d, rfl, o1.dp e, ok, q _ _ _ rfl r1 (.str _)⟩
/-- _law_same -/
def t_same (K : PySem.W.Frag) : TS := tRet (tAndV (tOp (rEqP K) (tVar 0) (tVar 1)) (tOp (rEqP K) (tCB (rReprD K) (tCons (tVar 0) tNil)) (tCB (rReprD K) (tCons (tVar 1) tNil))))
def A_same : At := fun ks S Z => ∃ d e, ks = [.dat d, .dat e] ∧ ShOk d ∧ ShOk e ∧ (S = fun z => z = .dat (.bool (PyData.eqv d e && decide (d.shown = e.shown)))) ∧ Z = noZ
theorem b_same {P : Po} {e : PyData} (h1 : ShOk d) (h2 : ShOk e) (s : P.rt (.dat (.bool (PyData.eqv d e && decide (d.shown = e.shown))))) : BS C (t_same C.K) [.dat d, .dat e] P :=
  b_ret (e_and (e_op1 (e_var rfl) (e_var rfl) (k_eq rfl rfl h1.sh h2.sh)) fun _ => e_op1 (e_repr (e_var rfl) rfl h1) (e_repr (e_var rfl) rfl h2) k_eq_s) rfl s
end
end Mh
namespace Mh
open PySem PySem.Spec PyProof.Rows L2 TL
/-! ### list(reversed(xs)) -/
section
variable {prog : Program} {w : World} {A : Around} {E : Value → Shared → Prop} {s : Shared}
theorem fill_rev {R : Result → Shared → Prop} {it l : Addr} {items : Array Value} (calm : A.handled = none) (isIt : s.heap.IsRevIter it l ((items.size : Int) - 1)) (isL : s.heap.IsList l items) (apart : l ≠ it) (fits : items.size ≤ sizeLine)
    (T : Addr) (nit : T ≠ it) (nl : T ≠ l) (c₀ : Nat) (empty : s.heap.get? T = some { cls := .type "list", data := .seq #[] c₀ })
    (done : ∀ (h' : Heap) (tk : Nat) (acc : Array Value) (c' : Nat), (∀ b o, b ≠ it → b ≠ T → s.heap.get? b = some o → h'.get? b = some o) → h'.get? T = some { cls := .type "list", dict := none, data := .seq acc c', slots := #[] } →
      ItemsOf (fun i v => items[items.size - 1 - i]? = some v) acc items.size → R (.ok (.ret .none)) { s with heap := h', toks := tk }) :
    wpAny (model prog w) A.in1 (Builtin.List.listExtendWith (.ref T) (.ref it) .none)
      (fun fin s' => match fin with | .done f => R (.ok f) s' | .again c' => c'.quiet = true ∧ codeAny (model prog w) A c' R s') (fun e s' => R (.error e) s') s := by
  have walk := (Walks.listRev (prog := prog) (w := w) (A := A.in1) calm it l apart items).toS
  have off : T ∉ [it, l] := by simp [nit, nl]
  have kind : s.TypeIs (.ref it) "list_reverseiterator" := isIt.typeIs
  have other : Builtin.List.listSameRef (.ref T) (.ref it) = false := by simp [Builtin.List.listSameRef, nit]
  unfold Builtin.List.listExtendWith
  refine wpAny_bind (wpAny_typeOf kind ?_)
  rw [if_neg (by rw [other]; decide)]
  refine wpAny_bind (wpAny_pyIter_revIter isIt (wpAny_bind (wpAny_holding ?_)))
  unfold Builtin.List.listLengthHint
  refine wpAny_bind (wpAny_specialOf kind RT.nolen_lri ?_)
  show wpAny _ A.in1 (specialOf (Value.ref it) (Str.ofString "__length_hint__") >>= _) _ _ s
  refine wpAny_bind (wpAny_specialOf kind RT.hint_lri ?_)
  generalize named : ("list_reverseiterator.__length_hint__" : String) = nm
  wp_delta
  rw [show splitId nm = some ("list_reverseiterator", "__length_hint__") from by subst named; decide +kernel]
  subst named
  refine wpAny_bind (wpAny_isInstance (b := true) kind (by rw [isSubtype_type]; kernel_rfl) (wpAny_pure ?_))
  rw [if_neg (by decide)]
  have start : ((items.size : Nat) : Int) - 1 - ((0 : Nat) : Int) = (items.size : Int) - 1 := by omega
  refine wpAny_pure ⟨plainId_quiet F.plain_extend_loop _, codeAny_extend_loopS walk fits _ off _ items.size 0 _ _ _ rfl (Nat.zero_le _) ⟨Nat.zero_le _, by rw [start]; exact isIt, isL⟩ empty (ItemsOf.nil _) fun s' acc c' moved there all => ?_⟩
  rw [Moved.eq_with moved]
  refine done s'.heap s'.toks acc c' (fun b o n1 n2 e => moved.heap b o (fun h => ?_) e) there all
  rcases List.mem_cons.mp h with z | z
  · exact n2 z
  · exact n1 (List.mem_singleton.mp z)
theorem call_list_rev {it l : Addr} {items : Array Value} {Q : Value → Shared → Prop} (calm : A.handled = none) (isIt : s.heap.IsRevIter it l ((items.size : Int) - 1)) (isL : s.heap.IsList l items) (apart : l ≠ it) (fits : items.size ≤ sizeLine)
    (done : ∀ (h' : Heap) (tk : Nat) (acc : Array Value) (c' : Nat), (∀ b o, b ≠ it → s.heap.get? b = some o → h'.get? b = some o) → h'.get? s.heap.objs.size = some { cls := .type "list", dict := none, data := .seq acc c', slots := #[] } →
      ItemsOf (fun i v => items[items.size - 1 - i]? = some v) acc items.size → Q (.ref s.heap.objs.size) { s with heap := h', toks := tk }) :
    wpAny (model prog w) A (call (.type "list") [.ref it]) Q E s := by
  obtain ⟨oi, hoi, _⟩ := id isIt
  obtain ⟨ol, hol, _⟩ := id isL
  have n1 : s.heap.objs.size ≠ it := Nat.ne_of_gt (Heap.lt_size hoi)
  have n2 : s.heap.objs.size ≠ l := Nat.ne_of_gt (Heap.lt_size hol)
  refine callType_codes (Q₁ := fun obj s₁ => obj = .ref s.heap.objs.size ∧ s₁ = { s with heap := s.heap.push { cls := .type "list", data := .seq #[] } }) F.called_list (F.typeCall_list_1 _) F.entry_list_init (code_list_new _ ⟨rfl, rfl⟩) ?_
  rintro _ _ ⟨rfl, rfl⟩
  have made : (s.heap.push { cls := .type "list", data := .seq #[] }).get? s.heap.objs.size = some { cls := .type "list", data := .seq #[] } := Heap.get?_push_size _ rfl
  refine ⟨⟨_, made, rfl⟩, F.args_list_init_2 _ _, ?_⟩
  show wpAny _ _ (do let old ← Builtin.List.listItems (.ref s.heap.objs.size); Builtin.List.listUpdate (.ref s.heap.objs.size) (fun _ => #[]); letGo old.toList.reverse; Builtin.List.listExtendWith (.ref s.heap.objs.size) (.ref it) .none) _ _ _
  refine wpAny_bind ?_
  unfold Builtin.List.listItems
  refine wpAny_bind (wpAny_seqItems made rfl (wpAny_pure ?_))
  show wpAny _ _ (updateSeq s.heap.objs.size (fun _ => #[]) >>= fun _ => letGo (#[] : Array Value).toList.reverse >>= fun _ => Builtin.List.listExtendWith (.ref s.heap.objs.size) (.ref it) .none) _ _ _
  refine wpAny_bind (wpAny_updateSeq made rfl ?_)
  have made2 := Heap.get?_update_self (Obj.mapSeq (fun _ => (#[] : Array Value))) made rfl
  have rest : ∀ b o, b ≠ s.heap.objs.size → s.heap.get? b = some o → ((s.heap.push { cls := .type "list", data := .seq #[] }).update s.heap.objs.size (Obj.mapSeq (fun _ => (#[] : Array Value)))).get? b = some o :=
    fun b o hb e => (Heap.get?_update_other _ _ (Ne.symm hb)).trans (Heap.get?_push_of_some _ e)
  refine wpAny_bind (wpAny_letGo ?_)
  refine fill_rev (A := A.in1) (s := { s with heap := _ }) calm (isIt.at fun o e => rest it o (Ne.symm n1) e) ?_ apart fits _ n1 n2 _ made2 fun h' tk acc c' kept there all => ⟨rfl, done h' tk acc c' (fun b o hb e => kept b o hb (Nat.ne_of_lt (Heap.lt_size e)) (rest b o (Nat.ne_of_lt (Heap.lt_size e)) e)) there all⟩
  exact isL.at fun o e => rest l o (Ne.symm n2) e
end
def tLstRev (K : PySem.W.Frag) (te : TE) : TE := fun σ H Q => te σ H fun v H1 => ∃ (a : Addr) (xs : List V), v = .ref a ∧ SqL K H1 a xs ∧ ∀ q, H1 q = none → Q (.ref q) (upd H1 q (.lst xs.reverse))
section
variable {X : Cx}
theorem pe_lstRev {e : Expr} {te : TE} {p p2 pos pos2 : Pos} (calm : X.calm = true) (g1 : Gl X "list") (m1 : X.mg "list" = none) (g2 : Gl X "reversed") (m2 : X.mg "reversed" = none) (he : PE X e te)
    (h1 : starEach [e] X.env = (false, eval e X.env) :: starEach [] X.env := by rfl)
    (h2 : starEach [.Call (.Name "reversed" p2) [e] [] pos2] X.env = (false, eval (.Call (.Name "reversed" p2) [e] [] pos2) X.env) :: starEach [] X.env := by rfl) :
    PE X (.Call (.Name "list" p) [.Call (.Name "reversed" p2) [e] [] pos2] [] pos) (tLstRev X.K te) := ⟨fun pins s σ H Q I want => by
  refine Call_ (ld_blt I g1 m1 PyProof.Rows.boot_list (callWith_type1 (args_cons (Call_ (ld_blt I g2 m2 PyProof.Rows.boot_reversed (callWith_type1 (args_cons (thn (he.run pins s σ H _ I want) ?_) h1) h1 rfl))) h2) h2 rfl))
  rintro u s1 ⟨v, H1, I1, rel, a, xs, rfl, seq, fin⟩
  cases rel
  refine args_nil ?_
  obtain ⟨its, rv, plain, short⟩ := I1.list seq
  refine call_reversed_list plain.isList (args_nil ?_)
  have k0 : ∀ b o, s1.heap.get? b = some o → (s1.heap.push (revObj a ((its.toArray.size : Int) - 1))).get? b = some o := fun b o e => Heap.get?_push_of_some _ e
  have isL := plain.isList
  obtain ⟨ol, hol, _⟩ := id isL
  have apart : a ≠ s1.heap.objs.size := Nat.ne_of_lt (Heap.lt_size hol)
  have fits : its.toArray.size ≤ sizeLine := by rw [List.size_toArray, ← rv.length]; exact short
  refine call_list_rev (s := { s1 with heap := s1.heap.push (revObj a ((its.toArray.size : Int) - 1)) }) (I1.ok.hd calm) ⟨_, Heap.get?_push_size _ rfl, rfl, rfl⟩ (isL.push _) apart fits fun h' tk acc c' kept there all => ?_
  have size2 : (s1.heap.push (revObj a ((its.toArray.size : Int) - 1))).objs.size = s1.heap.objs.size + 1 := Heap.size_push _ _
  have free : H1 (s1.heap.push (revObj a ((its.toArray.size : Int) - 1))).objs.size = none := I1.hok.fresh (by rw [size2]; exact Nat.le_succ _)
  refine ⟨.ref _, upd H1 _ (.lst xs.reverse), I1.laid (t' := tk) (fun b o e => kept b o (Nat.ne_of_lt (Heap.lt_size e)) (k0 b o e)) (by rw [size2]; exact Nat.le_succ _) (show ObjOk X.prog X.w _ _ _ (.lst xs.reverse) from ⟨by rw [List.length_reverse]; exact short, acc.toList, c', RT.vals_rev rv all, ?_⟩), rfl, fin _ free⟩
  rw [Array.toArray_toList]
  exact there⟩
end
section
variable {C : Ct} {ρ : List Kd} {k : Kd} {ds : List PyData} {te : TE}
theorem e_lstRev (h : E1 C te ρ k) (e : datK k = some (.list ds)) : E1 C (tLstRev C.K te) ρ (.new ds.reverse) := fun σ H r Q q => h σ H r _ fun k' v H1 s1 r1 o1 => by
  subst s1
  obtain ⟨a, xs, rfl, h1, h2⟩ := o1.lsq e
  refine ⟨a, xs, rfl, h1, fun p hp => ?_⟩
  obtain ⟨q1, q2⟩ := (r.up r1).newL hp h2.reverse
  exact q _ _ _ rfl (r1.trans q1) (q2.back r.ok r1)
end
end Mh
namespace Mh
open PySem PySem.Spec PyProof.Rows L2 TL
abbrev rNegI : V → Hp → VK → Prop := rU fun i => .int (-i)
theorem hu65 {k : Nat} {A : Around} (r : Room k A) : A.units + 65 < cLine := by have := r.un; omega
theorem hu70 {k : Nat} {A : Around} (r : Room k A) : A.units + 70 < cLine := by have := r.un; omega
section
variable {X : Cx} {x : Str} {pos : Pos}
theorem pe_cstS {z : Str} (g : Gl X x) (h : ∃ t, X.mg x = some (.str z t)) (d : (x == ("__debug__" : Str)) = false := by decide) : PE X (.Name x pos) (tC (.str z)) := h.elim fun t m => pe_glob g m ⟨t, rfl⟩ d
theorem pe_cstI {z : Int} (g : Gl X x) (h : ∃ t, X.mg x = some (.int z t)) (d : (x == ("__debug__" : Str)) = false := by decide) : PE X (.Name x pos) (tC (.int z)) := h.elim fun t m => pe_glob g m ⟨t, rfl⟩ d
end
theorem sp_len {K : PySem.W.Frag} {F : Addr → Prop} {J : Hp → Prop} {fr : Bool} {A : At} {vs : List V} {H : Hp} {Q : VK} {E : XK} {n : Nat} (hA : ∀ ks S Z, A ks S Z → ks.length = n) (h : SpF K F J fr A vs H Q E) : vs.length = n := by
  obtain ⟨ks, S, Z, a, r, _⟩ := h
  have := r.len
  rw [List.length_map, hA _ _ _ a] at this
  exact this
section
variable {C : Ct} {ρ : List Kd} {te : TE} {i : Int}
theorem e_neg (h : E1 C te ρ (.dat (.int i))) : E1 C (tUn rNegI te) ρ (.dat (.int (-i))) := fun σ H r Q q => h σ H r _ fun k v H1 s1 r1 o1 => by
  subst s1
  exact ⟨i, dp_int o1, q _ _ _ rfl r1 (.int _)⟩
theorem e_negS {S1 S : Kd → Prop} (h : EB C te ρ S1) (s : ∀ k, S1 k → ∃ i, k = .dat (.int i) ∧ S (.dat (.int (-i)))) : EB C (tUn rNegI te) ρ S := fun σ H r Q q => h σ H r _ fun k v H1 s1 r1 o1 => by
  obtain ⟨i, rfl, s2⟩ := s k s1
  exact ⟨i, dp_int o1, q _ _ _ s2 r1 (.int _)⟩
end
end Mh
namespace Mh
open PySem L2 TL
section
variable {C : Ct} {σ : L2.St} {H H' H1 H2 Hs : Hp} {ρ : List Kd} {v : V} {k x y z : Kd} {l : Addr} {d e : PyData} {ds es : List PyData} {ta tb te : TE} {tt : TT} {t u : TS} {i j : Nat} {S S1 S2 : Kd → Prop} {P P' : Po}
theorem e_frzS (h : EB C te ρ S1) (s : ∀ k, S1 k → ∃ ds, k = .new ds ∧ S (.dat (.list ds))) : EB C te ρ S := fun σ H r Q q => h σ H r Q fun k v H' a b c => by
  obtain ⟨ds, rfl, s2⟩ := s k a
  exact q _ v H' s2 b (c.frz r b)
/-- a list of the def's own, from here on data -/
theorem own_dat (he : ρ[i]? = some (.own l ds)) {a : Addr} : Own (ρ.set i (.dat (.list ds))) a → Own ρ a ∧ a ≠ l ∨ (Own ρ a ∧ ∃ j es, j ≠ i ∧ ρ[j]? = some (.own a es)) := fun h => by
  obtain ⟨j, es, e⟩ := h
  by_cases hj : i = j
  · subst hj
    have hl : i < ρ.length := (List.getElem?_eq_some_iff.mp he).1
    rw [List.getElem?_set_self hl] at e
    cases e
  · rw [List.getElem?_set_ne hj] at e
    exact .inr ⟨⟨j, es, e⟩, j, es, fun z => hj z.symm, e⟩
theorem Rep.frz (r : Rep C σ H ρ) (he : ρ[i]? = some (.own l ds)) : Rep C σ H (ρ.set i (.dat (.list ds))) := by
  have sub : ∀ a, Own (ρ.set i (.dat (.list ds))) a → Own ρ a := fun a h => own_plain rfl h
  have ex : Ext (msk C ρ H) (msk C (ρ.set i (.dat (.list ds))) H) := msk_plain rfl
  have nl : ¬ Own (ρ.set i (.dat (.list ds))) l := fun h => by
    obtain ⟨j, es, e⟩ := h
    by_cases hj : i = j
    · subst hj
      have hl : i < ρ.length := (List.getElem?_eq_some_iff.mp he).1
      rw [List.getElem?_set_self hl] at e
      cases e
    · rw [List.getElem?_set_ne hj] at e
      exact hj (r.nd _ _ _ _ _ he e)
  obtain ⟨vs, h1, h2⟩ := r.own_at he
  have own : Own ρ l := ⟨i, ds, he⟩
  have hm : msk C (ρ.set i (.dat (.list ds))) H l = some (.lst vs) := msk_mk h1 nl (r.nF own) fun z => z.2.1 (r.fr l own)
  refine ⟨r.ok, r.j, r.old, by rw [List.length_set, r.len], fun a b l' ds' es' ha hb => ?_, fun l' o => r.fr l' (sub l' o), fun j k' e => ?_, fun p hp => Dp.ex ex (r.pn p hp)⟩
  · have q : ∀ {a : Nat} {ds'}, (ρ.set i (Kd.dat (.list ds)))[a]? = some (Kd.own l' ds') → ρ[a]? = some (Kd.own l' ds') := fun {a ds'} ha => by
      by_cases hj : i = a
      · subst hj
        have hl : i < ρ.length := (List.getElem?_eq_some_iff.mp he).1
        rw [List.getElem?_set_self hl] at ha
        cases ha
      · rw [List.getElem?_set_ne hj] at ha
        exact ha
    exact r.nd a b l' _ _ (q ha) (q hb)
  · by_cases hj : i = j
    · subst hj
      have hl : i < ρ.length := (List.getElem?_eq_some_iff.mp he).1
      rw [List.getElem?_set_self hl] at e
      cases e
      obtain ⟨h3, _⟩ := r.sl i _ he
      exact ⟨_, h3, .lst (.inl (.inl hm)) (DpAll.ex ex h2)⟩
    · rw [List.getElem?_set_ne hj] at e
      exact (r.sl j k' e).ex ex fun _ _ _ => rfl
theorem b_frz (he : ρ[i]? = some (.own l ds)) (h : BS C t (ρ.set i (.dat (.list ds))) P) : BS C t ρ P := fun σ H r D pd => h σ H (r.frz he) D pd
/-- for x in reversed(a tuple) -/
theorem b_forRev {tl : TE} (hl : E1 C tl ρ (.dat (.tuple ds))) (I : Nat → List Kd → Prop) (h0 : I 0 ρ)
    (hb : ∀ v d' (n : Nat) (a : PyData) ρ, n < ds.length → ds[ds.length - 1 - n]? = some a → I n ρ → BS (C.pin v d') t (ρ.set j (.dat a)) { nx := I (n + 1), ct := I (n + 1), bk := P.nx, rt := P.rt }) (he : ∀ ρ, I ds.length ρ → P.nx ρ) :
    BS C (tFor (RT.iRevA C.K tl) (gName j) t) ρ P := fun σ H r D pd => by
  refine hl σ H r _ fun k' v H1 s1 r1 o1 => ?_
  subst s1
  have hd : Dp C.K (msk C ρ H1) v (.tuple ds) := o1
  obtain ⟨a, xs, rfl, h1, h2⟩ := dp_tup hd
  have hlen := h2.length
  refine ⟨a, xs, rfl, .inr ⟨Ext.t msk_le h1, ?_⟩⟩
  rw [hlen]
  refine ⟨fun n m σ H => m = ds.length - n ∧ n ≤ ds.length ∧ ∃ ρ, I n ρ ∧ Rep (C.pin (.ref a) (.tuple ds)) σ H ρ, ⟨_, rfl, Nat.zero_le _, ρ, h0, (r.up r1).pin hd⟩, ?_⟩
  rintro n m σ H ⟨rfl, hn, ρ', hI, rp⟩
  by_cases hlt : n < ds.length
  · have hv : Dp C.K (msk C ρ' H) (.ref a) (.tuple ds) := rp.pn (.ref a, .tuple ds) List.mem_cons_self
    obtain ⟨a', ys, ea, g1, g2⟩ := dp_tup hv
    cases ea
    have gl := g2.length
    have hk : ds.length - 1 - n < ds.length := by omega
    refine .inr ⟨⟨hlt, ys, ys[ds.length - 1 - n]'(by omega), Ext.t msk_le g1, List.getElem?_eq_getElem _⟩, fun σ' H' => ∃ ρ, I (n + 1) ρ ∧ Rep (C.pin (.ref a) (.tuple ds)) σ' H' ρ, fun σ' H' z => ⟨_, by omega, rfl, hlt, z⟩, fun x H' y => ?_⟩
    obtain ⟨eH, y2⟩ := y
    subst eH
    obtain ⟨u, hu1, hu2⟩ := g2.getd (i := ds.length - 1 - n) (d := ds[ds.length - 1 - n]) (List.getElem?_eq_getElem _)
    have e3 := y2 ys (Ext.t msk_le g1)
    rw [hu1] at e3
    have e4 := Option.some.inj e3
    subst e4
    have rs := rp.set_plain (i := j) (Hs := H') (k := .dat ds[ds.length - 1 - n]) rfl hu2
    exact hb (.ref a) (.tuple ds) n _ ρ' hlt (List.getElem?_eq_getElem _) hI _ H' rs _ ⟨fun ρ σ H z r => ⟨ρ, z, r⟩, fun k v H z r => pd.rt k v H z r, fun ρ σ H z r' => pd.nx ρ σ H z (r'.unpin r.ok), fun ρ σ H z r => ⟨ρ, z, r⟩⟩
  · have en : n = ds.length := by omega
    subst en
    exact .inl ⟨Nat.le_refl _, pd.nx ρ' σ H (he ρ' hI) (rp.unpin r.ok)⟩
end
end Mh
namespace Mh
open PySem L2 TL
/-! ### value texts, in plain Lean -/
def fig (c : Nat) : Bool := decide (48 ≤ c) && decide (c ≤ 57)
def ltr (c : Nat) : Bool := decide (97 ≤ c) && decide (c ≤ 122)
mutual
def txt : PyData → List Nat
  | .str x => 34 :: (tl x ++ [34])
  | .int i => numL i.toNat
  | .tuple xs => 40 :: (txtAll xs ++ [41])
  | _ => [45]
def txtAll : List PyData → List Nat
  | [] => []
  | x :: xs => txt x ++ (44 :: txtAll xs)
end
mutual
def gd : PyData → Bool
  | .none => true
  | .str x => (tl x).all ltr
  | .int i => decide (0 ≤ i) && decide (i < 10 ^ 40)
  | .tuple xs => gdAll xs
  | _ => false
def gdAll : List PyData → Bool
  | [] => true
  | x :: xs => gd x && gdAll xs
end
mutual
def dep : PyData → Nat
  | .tuple xs => depAll xs + 1
  | _ => 0
def depAll : List PyData → Nat
  | [] => 0
  | x :: xs => max (dep x) (depAll xs)
end
mutual
theorem gd_nl : ∀ d, gd d = true → nl d = true
  | .none, _ => rfl
  | .str _, _ => rfl
  | .int _, _ => rfl
  | .tuple xs, h => gdAll_nl xs (by simpa [gd] using h)
  | .bool _, h => by simp [gd] at h
  | .list _, h => by simp [gd] at h
  | .dict _, h => by simp [gd] at h
theorem gdAll_nl : ∀ ds, gdAll ds = true → nl.nlAll ds = true
  | [], _ => rfl
  | x :: xs, h => by
    have h2 : gd x = true ∧ gdAll xs = true := by simpa [gdAll] using h
    show (nl x && nl.nlAll xs) = true
    rw [gd_nl x h2.1, gdAll_nl xs h2.2]
    rfl
end
theorem str_ok {x : Str} (h : ∀ c ∈ tl x, c < 128) : PyData.strOk x = true := by
  unfold PyData.strOk
  rw [Array.all_eq_true_iff_forall_mem]
  intro c hc
  have := h c (by simpa [tl] using hc)
  simp
  omega
theorem ltr_lt {c : Nat} (h : ltr c = true) : c < 128 := by
  simp [ltr] at h
  omega
mutual
theorem gd_lay : ∀ d, gd d = true → d.canLay0 = true
  | .none, _ => rfl
  | .str x, h => by
    show PyData.strOk x = true
    refine str_ok fun c hc => ?_
    have h2 : (tl x).all ltr = true := by simpa [gd] using h
    exact ltr_lt (List.all_eq_true.mp h2 c hc)
  | .int _, _ => rfl
  | .tuple xs, h => gdAll_lay xs (by simpa [gd] using h)
  | .bool _, h => by simp [gd] at h
  | .list _, h => by simp [gd] at h
  | .dict _, h => by simp [gd] at h
theorem gdAll_lay : ∀ ds, gdAll ds = true → PyData.canLayAll0 ds = true
  | [], _ => rfl
  | x :: xs, h => by
    have h2 : gd x = true ∧ gdAll xs = true := by simpa [gdAll] using h
    show (PyData.canLay0 x && PyData.canLayAll0 xs) = true
    rw [gd_lay x h2.1, gdAll_lay xs h2.2]
    rfl
end
mutual
theorem gd_dep : ∀ d, gd d = true → d.depth = dep d
  | .none, _ => by rw [dep, PyData.depth]; nofun
  | .str x, h => by rw [dep, PyData.depth]; nofun
  | .int _, _ => by rw [dep, PyData.depth]; nofun
  | .tuple xs, h => by rw [dep, PyData.depth, gdAll_dep xs (by simpa [gd] using h)]
  | .bool _, h => by simp [gd] at h
  | .list _, h => by simp [gd] at h
  | .dict _, h => by simp [gd] at h
theorem gdAll_dep : ∀ ds, gdAll ds = true → PyData.depthAll ds = depAll ds
  | [], _ => by rw [depAll, PyData.depthAll]
  | x :: xs, h => by
    have h2 : gd x = true ∧ gdAll xs = true := by simpa [gdAll] using h
    rw [depAll, PyData.depthAll, gd_dep x h2.1, gdAll_dep xs h2.2]
end
theorem log_lt {i : Int} (h0 : 0 ≤ i) (h : i < 10 ^ 40) : i.natAbs.log2 < 1920 := by
  by_cases z : i.natAbs = 0
  · rw [z]
    decide
  · rw [Nat.log2_lt z]
    have e : i.natAbs < 10 ^ 40 := by omega
    exact Nat.lt_trans e (by decide)
mutual
theorem gd_show : ∀ d, gd d = true → d.showable = true
  | .none, _ => rfl
  | .str x, h => rfl
  | .int i, h => by
    have h2 : 0 ≤ i ∧ i < 10 ^ 40 := by simpa [gd] using h
    show decide (i.natAbs.log2 < 1920) = true
    exact decide_eq_true (log_lt h2.1 h2.2)
  | .tuple xs, h => gdAll_show xs (by simpa [gd] using h)
  | .bool _, h => by simp [gd] at h
  | .list _, h => by simp [gd] at h
  | .dict _, h => by simp [gd] at h
theorem gdAll_show : ∀ ds, gdAll ds = true → PyData.showableAll ds = true
  | [], _ => rfl
  | x :: xs, h => by
    have h2 : gd x = true ∧ gdAll xs = true := by simpa [gdAll] using h
    show (PyData.showable x && PyData.showableAll xs) = true
    rw [gd_show x h2.1, gdAll_show xs h2.2]
    rfl
end
theorem num_str {i : Int} (h0 : 0 ≤ i) : tl ((toString i : String) : Str) = numL i.toNat := by
  have e : i = ((i.toNat : Nat) : Int) := by omega
  rw [e]
  exact tl_num _
mutual
theorem gd_len : ∀ d, gd d = true → rlen d ≤ 10 * (txt d).length
  | .none, _ => by simp [rlen, txt]
  | .str x, h => by
    simp [rlen, txt, Str.length]
    omega
  | .int i, h => by
    have h2 : 0 ≤ i ∧ i < 10 ^ 40 := by simpa [gd] using h
    rw [rlen, txt, len_tl, num_str h2.1]
    omega
  | .tuple xs, h => by
    have q := gdAll_len xs (by simpa [gd] using h)
    rw [rlen, txt]
    simp
    omega
  | .bool _, h => by simp [gd] at h
  | .list _, h => by simp [gd] at h
  | .dict _, h => by simp [gd] at h
theorem gdAll_len : ∀ ds, gdAll ds = true → rlenAll ds ≤ 10 * (txtAll ds).length
  | [], _ => by simp [rlenAll]
  | x :: xs, h => by
    have h2 : gd x = true ∧ gdAll xs = true := by simpa [gdAll] using h
    have q1 := gd_len x h2.1
    have q2 := gdAll_len xs h2.2
    rw [rlenAll, txtAll]
    simp
    omega
end
theorem gd_sh {d : PyData} (h : gd d = true) (hd : dep d ≤ 64) (hl : (txt d).length ≤ 100000) : ShOk d := by
  refine ⟨?_, gd_show d h, ?_⟩
  · unfold SeqAt.shaped
    rw [gd_lay d h, gd_dep d h, decide_eq_true hd]
    rfl
  · have := gd_len d h
    omega
theorem str_sh {x : Str} (h : ∀ c ∈ tl x, c < 128) (hl : x.length ≤ 99999) : ShOk (.str x) := by
  refine ⟨?_, rfl, ?_⟩
  · unfold SeqAt.shaped
    rw [show PyData.canLay0 (.str x) = true from str_ok h]
    rfl
  · rw [rlen]
    omega
mutual
theorem txt_lt : ∀ d, gd d = true → ∀ c ∈ txt d, c < 128
  | .none, _, c, hc => by
    simp [txt] at hc
    omega
  | .str x, h, c, hc => by
    have h2 : (tl x).all ltr = true := by simpa [gd] using h
    rw [txt] at hc
    rcases List.mem_cons.mp hc with e | hc
    · omega
    · rcases List.mem_append.mp hc with e | e
      · exact ltr_lt (List.all_eq_true.mp h2 c e)
      · have := List.mem_singleton.mp e
        omega
  | .int i, h, c, hc => by
    rw [txt] at hc
    have := numL_digits i.toNat c hc
    omega
  | .tuple xs, h, c, hc => by
    rw [txt] at hc
    rcases List.mem_cons.mp hc with e | hc
    · omega
    · rcases List.mem_append.mp hc with e | e
      · exact txtAll_lt xs (by simpa [gd] using h) c e
      · have := List.mem_singleton.mp e
        omega
  | .bool _, h, _, _ => by simp [gd] at h
  | .list _, h, _, _ => by simp [gd] at h
  | .dict _, h, _, _ => by simp [gd] at h
theorem txtAll_lt : ∀ ds, gdAll ds = true → ∀ c ∈ txtAll ds, c < 128
  | [], _, c, hc => by simp [txtAll] at hc
  | x :: xs, h, c, hc => by
    have h2 : gd x = true ∧ gdAll xs = true := by simpa [gdAll] using h
    rw [txtAll] at hc
    rcases List.mem_append.mp hc with e | e
    · exact txt_lt x h2.1 c e
    · rcases List.mem_cons.mp e with e | e
      · omega
      · exact txtAll_lt xs h2.2 c e
end
theorem txtAll_app (xs ys : List PyData) : txtAll (xs ++ ys) = txtAll xs ++ txtAll ys := by
  induction xs with
  | nil => rfl
  | cons x xs ih => simp [txtAll, ih]
theorem gdAll_app (xs ys : List PyData) : gdAll (xs ++ ys) = (gdAll xs && gdAll ys) := by
  induction xs with
  | nil => rfl
  | cons x xs ih => simp [gdAll, ih, Bool.and_assoc]
/-! ### reading a value text -/
inductive Atm : List Nat → PyData → List Nat → Prop where
  | non {r : List Nat} : Atm (45 :: r) .none r
  | str {w r : List Nat} : w.all ltr = true → Atm (34 :: (w ++ 34 :: r)) (.str ⟨w.toArray⟩) r
  | num {n : Nat} {r : List Nat} : n < 10 ^ 40 → (∀ c, r.head? = some c → fig c = false) → Atm (numL n ++ r) (.int n) r
inductive Par : List (List PyData) → List Nat → PyData → Prop where
  | op {st : List (List PyData)} {r : List Nat} {d : PyData} : st.length < 60 → Par ([] :: st) r d → Par st (40 :: r) d
  | cl1 {top : List PyData} : Par [top] [41] (.tuple top)
  | cl2 {top up : List PyData} {st : List (List PyData)} {r : List Nat} {d : PyData} : Par ((up ++ [.tuple top]) :: st) r d → Par (top :: up :: st) (41 :: 44 :: r) d
  | at1 {cs : List Nat} {v : PyData} : Atm cs v [] → Par [] cs v
  | at2 {cs r : List Nat} {v d : PyData} {top : List PyData} {st : List (List PyData)} : Atm cs v (44 :: r) → Par ((top ++ [v]) :: st) r d → Par (top :: st) cs d
def Fin_ (st : List (List PyData)) (v : PyData) (r : List Nat) (res : PyData) : Prop := match st with
  | [] => r = [] ∧ res = v
  | top :: st => ∃ r', r = 44 :: r' ∧ Par ((top ++ [v]) :: st) r' res
theorem fin_atm {st : List (List PyData)} {v res : PyData} {cs r : List Nat} (h : Fin_ st v r res) (a : (∀ c, r.head? = some c → fig c = false) → Atm cs v r) : Par st cs res := by
  cases st with
  | nil =>
    obtain ⟨rfl, rfl⟩ := h
    exact .at1 (a (by simp))
  | cons top st =>
    obtain ⟨r', rfl, p⟩ := h
    refine .at2 (a ?_) p
    intro c hc
    simp at hc
    subst hc
    rfl
mutual
theorem par_txt : ∀ d, gd d = true → ∀ st r res, dep d + st.length ≤ 60 → Fin_ st d r res → Par st (txt d ++ r) res
  | .none, _, st, r, res, _, f => fin_atm f fun _ => .non
  | .str x, h, st, r, res, _, f => by
    have h2 : (tl x).all ltr = true := by simpa [gd] using h
    refine fin_atm f fun _ => ?_
    have := Atm.str (r := r) h2
    rw [mk_tl] at this
    rw [txt]
    simpa using this
  | .int i, h, st, r, res, _, f => by
    have h2 : 0 ≤ i ∧ i < 10 ^ 40 := by simpa [gd] using h
    refine fin_atm f fun q => ?_
    have e : i = ((i.toNat : Nat) : Int) := by omega
    have := Atm.num (n := i.toNat) (r := r) (by omega) q
    rw [← e] at this
    exact this
  | .tuple xs, h, st, r, res, hd, f => by
    rw [dep] at hd
    rw [txt, List.cons_append]
    refine .op (by omega) ?_
    have := parAll xs (by simpa [gd] using h) [] st r res (by omega) (by simpa using f)
    simpa using this
  | .bool _, h, _, _, _, _, _ => by simp [gd] at h
  | .list _, h, _, _, _, _, _ => by simp [gd] at h
  | .dict _, h, _, _, _, _, _ => by simp [gd] at h
theorem parAll : ∀ xs, gdAll xs = true → ∀ acc st r res, depAll xs + st.length + 1 ≤ 60 → Fin_ st (.tuple (acc ++ xs)) r res → Par (acc :: st) (txtAll xs ++ 41 :: r) res
  | [], _, acc, st, r, res, _, f => by
    rw [List.append_nil] at f
    cases st with
    | nil =>
      obtain ⟨rfl, rfl⟩ := f
      exact .cl1
    | cons up st =>
      obtain ⟨r', rfl, p⟩ := f
      exact .cl2 p
  | x :: xs, h, acc, st, r, res, hd, f => by
    have h2 : gd x = true ∧ gdAll xs = true := by simpa [gdAll] using h
    rw [depAll] at hd
    rw [txtAll, List.append_assoc, List.cons_append]
    refine par_txt x h2.1 (acc :: st) _ res (by simp only [List.length_cons]; omega) ⟨_, rfl, ?_⟩
    refine parAll xs h2.2 (acc ++ [x]) st r res (by omega) ?_
    rw [List.append_assoc]
    exact f
end
theorem par_of {d : PyData} (h : gd d = true) (hd : dep d ≤ 60) : Par [] (txt d) d := by
  have := par_txt d h [] [] d (by simpa using hd) ⟨rfl, rfl⟩
  rwa [List.append_nil] at this
end Mh
namespace Mh
open PySem PySem.Spec PyProof.Rows L2 TL
/-! ### what the value-text defs promise -/
def sg : Option Nat → Str
  | none => ⟨#[]⟩
  | some c => ⟨#[c]⟩
def A_sg (p : Nat → Bool) : At := fun ks S Z => ∃ o, ks = [.dat (.str (sg o))] ∧ S = (fun z => z = .dat (.bool (o.any p))) ∧ Z = noZ
abbrev sp_is_figure (K : PySem.W.Frag) : Sp := SpP K (A_sg fig)
abbrev sp_is_letter (K : PySem.W.Frag) : Sp := SpP K (A_sg ltr)
def tw (p : Nat → Bool) (z : Str) (k : Nat) : List Nat := ((tl z).drop k).takeWhile p
def A_fend : At := fun ks S Z => ∃ (z : Str) (p : Nat), ks = [.dat (.str z), .dat (.int p)] ∧ p ≤ z.length ∧ z.length ≤ sizeLine ∧ S = (fun k => k = .dat (.int ((p + (tw fig z p).length : Nat) : Int))) ∧ Z = noZ
abbrev sp_figures_end (K : PySem.W.Frag) : Sp := SpP K A_fend
def arf (w : List Nat) : Bool := w.all fig && (decide (w = [48]) || (match w with | [] => false | c :: _ => !decide (c = 48)))
def A_are : At := fun ks S Z => ∃ z : Str, ks = [.dat (.str z)] ∧ z.length ≤ sizeLine ∧ S = (fun k => k = .dat (.bool (arf (tl z)))) ∧ Z = noZ
abbrev sp_are_figures (K : PySem.W.Frag) : Sp := SpP K A_are
def numV (z : Str) (m : Int) : PyData := if decide (m < (z.length : Int)) || !arf (tl z) then .none else .int ((NumText.digitsVal (tl z) : Nat) : Int)
def A_num : At := fun ks S Z => ∃ (z : Str) (m : Int), ks = [.dat (.str z), .dat (.int m)] ∧ z.length ≤ sizeLine ∧ (m ≤ 640 ∨ z.length ≤ 640) ∧ S = (fun k => k = .dat (numV z m)) ∧ Z = noZ
abbrev sp_number_of (K : PySem.W.Frag) : Sp := SpP K A_num
def isTup : PyData → Bool
  | .tuple _ => true
  | _ => false
def A_atxt : At := fun ks S Z => ∃ d, ks = [.dat d] ∧ gd d = true ∧ isTup d = false ∧ (txt d).length ≤ 100000 ∧ S = (fun k => k = .dat (.str ⟨(txt d).toArray⟩)) ∧ Z = noZ
abbrev sp_atom_text (K : PySem.W.Frag) : Sp := SpP K A_atxt
def A_txt : At := fun ks S Z => ∃ d, ks = [.dat d] ∧ gd d = true ∧ (txt d).length ≤ 100000 ∧ S = (fun k => k = .dat (.str ⟨(txt d).toArray⟩)) ∧ Z = noZ
abbrev sp_text_of (K : PySem.W.Frag) : Sp := SpP K A_txt
abbrev sp_told (K : PySem.W.Frag) : Sp := SpP K A_txt
/-! ### plain laws of signs -/
theorem digs : tl ("0123456789" : Str) = [48, 49, 50, 51, 52, 53, 54, 55, 56, 57] := by decide +kernel
theorem ltrs : tl ("abcdefghijklmnopqrstuvwxyz" : Str) = [97, 98, 99, 100, 101, 102, 103, 104, 105, 106, 107, 108, 109, 110, 111, 112, 113, 114, 115, 116, 117, 118, 119, 120, 121, 122] := by decide +kernel
theorem mem_digs (c : Nat) : decide (c ∈ tl ("0123456789" : Str)) = fig c := by
  rw [digs, fig, ← Bool.decide_and]
  exact decide_eq_decide.mpr (by simp; omega)
theorem mem_ltrs (c : Nat) : decide (c ∈ tl ("abcdefghijklmnopqrstuvwxyz" : Str)) = ltr c := by
  rw [ltrs, ltr, ← Bool.decide_and]
  exact decide_eq_decide.mpr (by simp; omega)
theorem tw_at (p : Nat → Bool) : ∀ (l : List Nat) (k : Nat), k ≤ (l.takeWhile p).length → (l[k]?).any p = decide (k < (l.takeWhile p).length)
  | [], k, h => by
    simp at h
    simp [h]
  | a :: l, 0, h => by
    cases e : p a <;> simp [List.takeWhile_cons, e]
  | a :: l, k + 1, h => by
    cases e : p a with
    | false => simp [List.takeWhile_cons, e] at h
    | true =>
      simp [List.takeWhile_cons, e] at h ⊢
      rw [tw_at p l k h]
theorem sg_ne (o : Option Nat) : decide (sg o = ("" : Str)) = o.isNone := by
  cases o with
  | none => decide
  | some c =>
    refine decide_eq_false fun h => ?_
    have := congrArg (fun x : Str => (tl x).length) h
    exact absurd this (by simp [sg]; decide)
theorem cut_sg {z : Str} {p : Nat} : cutS z (some (p : Int)) (some ((p : Int) + 1)) = sg (tl z)[p]? := by
  refine ext_tl ?_
  have e : ((p : Int) + 1) = ((p + 1 : Nat) : Int) := by omega
  show ((z.cps.toList.drop (HT.sIx z.length 0 (some (p : Int)))).take (HT.sIx z.length z.length (some ((p : Int) + 1)) - HT.sIx z.length 0 (some (p : Int)))) = _
  rw [e, HT.sIx_nat, HT.sIx_nat]
  have hl : z.length = z.cps.toList.length := len_tl z
  by_cases hp : p < z.length
  · have e1 : min p z.length = p := by omega
    have e2 : min (p + 1) z.length - p = 1 := by omega
    rw [e1, e2, List.getElem?_eq_getElem (by rw [← hl]; exact hp), List.drop_eq_getElem_cons (by rw [← hl]; exact hp)]
    rfl
  · have e2 : min (p + 1) z.length - min p z.length = 0 := by omega
    rw [e2, List.getElem?_eq_none (by rw [← hl]; omega)]
    rfl
theorem cut_sub {z : Str} {p q : Nat} (h : p ≤ q) (hq : q ≤ z.length) : cutS z (some (p : Int)) (some (q : Int)) = ⟨(((tl z).drop p).take (q - p)).toArray⟩ := by
  refine ext_tl ?_
  show ((z.cps.toList.drop (HT.sIx z.length 0 (some (p : Int)))).take (HT.sIx z.length z.length (some (q : Int)) - HT.sIx z.length 0 (some (p : Int)))) = _
  rw [HT.sIx_nat, HT.sIx_nat, Nat.min_eq_left hq, Nat.min_eq_left (Nat.le_trans h hq)]
theorem tw_len {p : Nat → Bool} {z : Str} {k : Nat} (h : k ≤ z.length) : k + (tw p z k).length ≤ z.length := by
  have h1 : (tw p z k).length ≤ ((tl z).drop k).length := (List.takeWhile_prefix p).length_le
  rw [List.length_drop, ← len_tl] at h1
  omega
theorem tw_all {p : Nat → Bool} : ∀ l : List Nat, decide ((l.takeWhile p).length = l.length) = l.all p
  | [] => rfl
  | a :: l => by
    cases e : p a with
    | false => simp [List.takeWhile_cons, e]
    | true =>
      have := tw_all (p := p) l
      simp [List.takeWhile_cons, e] at this ⊢
      exact this
theorem take_tw {p : Nat → Bool} (l : List Nat) : l.take (l.takeWhile p).length = l.takeWhile p := List.prefix_iff_eq_take.mp (List.takeWhile_prefix p) |>.symm
section
variable {C : Ct} {ρ : List Kd} {i j : Nat} {z : Str} {p : Nat}
theorem e_sign (hz : ρ[i]? = some (.dat (.str z))) (hp : ρ[j]? = some (.dat (.int (p : Int)))) (h : z.length ≤ sizeLine) : E1 C (tSl (rSlP C.K) (tVar i) (tPart (tVar j)) (tPart (tOp (rAddP C.K) (tVar j) (tC (.int 1))))) ρ (.dat (.str (sg (tl z)[p]?))) :=
  (e_slS (e_var hz) (o_some (e_var hp)) (o_some (e_op1 (e_var hp) e_int k_add_i)) h).is (by rw [cut_sg])
end
end Mh
namespace Mh
open PySem PySem.Spec PyProof.Rows L2 TL
/-! ### the laws' box: three lists that change by draws -/
def BF (b g c : Addr) : Addr → Prop := fun a => a = b ∨ a = g ∨ a = c
def BJ (b g c : Addr) : Hp → Prop := fun H => b ≠ g ∧ b ≠ c ∧ g ≠ c ∧ ∃ (n : Int) (gs cs : List Int), H b = some (.lst [.ref g, .ref c, .int n]) ∧ H g = some (.lst (gs.map V.int)) ∧ H c = some (.lst (cs.map V.int)) ∧ cs ≠ []
def bxK (b : Addr) : Knd := ⟨fun _ _ v => v = .ref b, fun _ h => h⟩
abbrev bx (b : Addr) : Kd := .k (bxK b)
def spB (K : PySem.W.Frag) (A : Addr → At) : Sp := fun vs H Q E => ∃ b g c, SpF K (BF b g c) (BJ b g c) true (A b) vs H Q E
structure InB (C : Ct) (b : Addr) : Prop where
  ex : ∃ g c, C.F = BF b g c ∧ C.J = BJ b g c
theorem box_ok {K : PySem.W.Frag} {b g c : Addr} {H : Hp} {fr : Bool} {E : XK} (j : BJ b g c H) : (Ct.mk K (BF b g c) (BJ b g c) H fr [] E noZ).Ok where
  st := fun H H' j h => by
    obtain ⟨h1, h2, h3, n, gs, cs, q1, q2, q3, q4⟩ := j
    exact ⟨h1, h2, h3, n, gs, cs, (h b (.inl rfl)).trans q1, (h g (.inr (.inl rfl))).trans q2, (h c (.inr (.inr rfl))).trans q3, q4⟩
  ls := fun H a j f => by
    obtain ⟨h1, h2, h3, n, gs, cs, q1, q2, q3, q4⟩ := j
    rcases f with rfl | rfl | rfl
    · exact ⟨_, q1⟩
    · exact ⟨_, q2⟩
    · exact ⟨_, q3⟩
  j0 := j
  hE := fun _ _ _ _ _ z => z.elim
section
variable {C : Ct} {σ : L2.St} {H H' H1 H2 Hs : Hp} {ρ : List Kd} {v x y z u : V} {k : Kd} {l : Addr} {d e : PyData} {ds es : List PyData} {ta tb te : TE} {tt : TT} {t : TS} {i j : Nat} {S S1 S2 : Kd → Prop} {P P' : Po} {b : Addr} {K : PySem.W.Frag}
theorem InB.pin {v : V} (h : InB C b) : InB (C.pin v d) b := ⟨h.ex⟩
/-- a law's def, called -/
theorem e_callB {A : Addr → At} {ta : TA} {E : XK} {PA : List Kd → Prop} (hb : InB C b) (ha : EA C ta ρ PA) (hA : ∀ ks, PA ks → ∃ ks' S', ArgsK true ks ks' ∧ A b ks' S' noZ ∧ ∀ k, S' k → S k) : EB C (tCall (spB C.K A) [] E ta) ρ S := by
  obtain ⟨g, c, hF, hJ⟩ := hb.ex
  exact e_callM ha (.inl ⟨rfl, rfl⟩) (fun vs H Q h => ⟨b, g, c, by rw [← hF, ← hJ]; exact h⟩) hA
theorem a_bx : ArgK true (bx b) (bx b) := .k (.inr fun _ _ _ _ h => h)
/-! ### _law_draw, by hand -/
theorem br {b : Bool} {A B : Prop} (h1 : b = true → A) (h2 : b = false → B) : if b = true then A else B := by
  cases b with
  | true => exact (if_pos rfl).mpr (h1 rfl)
  | false => exact (if_neg Bool.false_ne_true).mpr (h2 rfl)
theorem ix_last (n : Nat) : ixN (n + 1) (-1) = some n := by
  unfold ixN
  rw [if_neg (by decide), if_pos (by omega)]
  exact congrArg some (by omega)
theorem at_last {α : Type} (xs : List α) (u : α) : atI (xs ++ [u]) (-1) = some u := by
  unfold atI
  rw [List.length_append, List.length_singleton, ix_last]
  simp
theorem at_nat {α : Type} {xs : List α} {n : Nat} {u : α} (h : xs[n]? = some u) : atI xs (n : Int) = some u := by
  have hl := (List.getElem?_eq_some_iff.mp h).1
  unfold atI ixN
  rw [if_pos (by omega), if_pos (by omega)]
  simpa using h
theorem at_int {α : Type} {xs : List α} {i : Int} (h0 : 0 ≤ i) (h : i < xs.length) : ∃ u, atI xs i = some u ∧ xs[i.toNat]? = some u := by
  have hl : i.toNat < xs.length := by omega
  refine ⟨xs[i.toNat], ?_, List.getElem?_eq_getElem hl⟩
  unfold atI ixN
  rw [if_pos h0, if_pos h]
  exact List.getElem?_eq_getElem hl
abbrev Vl (te : TE) (σ : L2.St) (H : Hp) (v : V) : Prop := ∀ Q : VK, Q v H → te σ H Q
theorem vl_var (h : σ[i]? = some (some v)) : Vl (tVar i) σ H v := fun Q q => ⟨v, h, q⟩
theorem vl_c : Vl (tC v) σ H v := fun Q q => q
theorem vl_op {r : R2} (ha : Vl ta σ H x) (hb : Vl tb σ H y) (h : ∀ Q : VK, Q z H → r x y H Q) : Vl (tOp r ta tb) σ H z := fun Q q => ha _ (hb _ (h Q q))
theorem o_ix {a : Addr} {xs : List V} {i : Int} (h : H a = some (.lst xs)) (e : atI xs i = some u) : ∀ Q : VK, Q u H → rIx K (.ref a) (.int i) H Q := fun Q q => .inl ⟨a, xs, i, u, rfl, rfl, .inl (.inl h), e, q⟩
theorem o_add {i j : Int} : ∀ Q : VK, Q (.int (i + j)) H → rAddP K (.int i) (.int j) H Q := fun Q q => .inl ⟨i, j, rfl, rfl, q⟩
theorem o_mul {i j : Int} (h : CMul i j) : ∀ Q : VK, Q (.int (i * j)) H → rMulP K (.int i) (.int j) H Q := fun Q q => .inl ⟨i, j, rfl, rfl, h, q⟩
theorem o_mod {i j : Int} (h : 0 < j) : ∀ Q : VK, Q (.int (i % j)) H → rModI (.int i) (.int j) H Q := fun Q q => ⟨i, j, rfl, rfl, h, q⟩
theorem o_div {i j : Int} (h : 0 < j ∧ j < 1073741824) : ∀ Q : VK, Q (.int (i / j)) H → rDivI (.int i) (.int j) H Q := fun Q q => ⟨i, j, rfl, rfl, h, q⟩
theorem o_gt {i j : Int} : ∀ Q : VK, Q (.bl (decide (j < i))) H → rGtI (.int i) (.int j) H Q := fun Q q => ⟨i, j, rfl, rfl, q⟩
theorem o_eq {i j : Int} : ∀ Q : VK, Q (.bl (decide (i = j))) H → rEqP K (.int i) (.int j) H Q := fun Q q => .inl ⟨rfl, by rw [dec_i]; exact q⟩
theorem vl_int {i : Int} (h : Vl ta σ H (.int i)) : Vl (tCB rIntP (tCons ta tNil)) σ H (.int i) := fun Q q => h _ (.inl (.inl ⟨i, rfl, q⟩))
theorem vl_len {a : Addr} {xs : List V} (h : Vl ta σ H (.ref a)) (e : H a = some (.lst xs)) : Vl (tCB (rLenP K) (tCons ta tNil)) σ H (.int xs.length) := fun Q q => h _ ⟨.ref a, xs.length, rfl, .inl ⟨xs, .inl (.inl e), rfl⟩, q⟩
theorem vl_neg {i : Int} (h : Vl ta σ H (.int i)) : Vl (tUn rNegI ta) σ H (.int (-i)) := fun Q q => h _ ⟨i, rfl, q⟩
end
def A_draw (b : Addr) : At := fun ks S Z => ∃ m : Int, 0 < m ∧ m < 1073741824 ∧ ks = [bx b, .dat (.int m)] ∧ S = (fun k => ∃ d : Int, 0 ≤ d ∧ d < m ∧ k = .dat (.int d)) ∧ Z = noZ
abbrev sp_law_draw (K : PySem.W.Frag) : Sp := spB K A_draw
section
variable {C : Ct} {ρ : List Kd} {te : TE} {i : Nat} {b : Addr} {m : Int}
def drS (m : Int) : Kd → Prop := fun k => ∃ d : Int, 0 ≤ d ∧ d < m ∧ k = .dat (.int d)
theorem e_draw (hb : InB C b) (hi : ρ[i]? = some (bx b)) (h : E1 C te ρ (.dat (.int m))) (h0 : 0 < m) (h1 : m < 1073741824) : EB C (tCall (sp_law_draw C.K) [] E0 (tCons (tVar i) (tCons te tNil))) ρ (drS m) :=
  e_callB (PA := fun ks => ks = [bx b, .dat (.int m)]) hb (a_cons (e_var hi) (a_cons h a_nil)) fun ks e => by
    subst e
    exact ⟨_, _, .cons a_bx (.cons (.dat fun _ => rfl) .nil), ⟨m, h0, h1, rfl, rfl, rfl⟩, fun k h => h⟩
end
def t_draw (K : PySem.W.Frag) : TS := (tSeq (tAsg (tOp (rIx K) (tVar 0) (tC (.int 0))) (gName 2))
  (tSeq (tAsg (tOp (rAddP K) (tOp (rIx K) (tVar 0) (tC (.int 2))) (tC (.int 1))) (gSub (tVar 0) (tC (.int 2)) rSetL))
  (tSeq (tWhile (tAnd (tTest (tOp rGtI (tCB (rLenP K) (tCons (tVar 2) tNil)) (tC (.int 0)))) (tTest (tOp (rEqP K) (tOp (rIx K) (tVar 2) (tUn rNegI (tC (.int 1)))) (tC (.int 0))))) (tDrop (tBM0 K "list" rPop (tVar 2))))
  (tSeq (tIfS (tTest (tOp rGtI (tCB (rLenP K) (tCons (tVar 2) tNil)) (tC (.int 0)))) (tSeq (tAsg (tOp rModI (tCB (rIntP) (tCons (tOp (rIx K) (tVar 2) (tUn rNegI (tC (.int 1)))) tNil)) (tVar 1)) (gName 5))
  (tSeq (tAsg (tOp rDivI (tOp (rIx K) (tVar 2) (tUn rNegI (tC (.int 1)))) (tVar 1)) (gSub (tVar 2) (tUn rNegI (tC (.int 1))) rSetL))
  (tRet (tVar 5)))) tNext)
  (tSeq (tAsg (tOp (rIx K) (tOp (rIx K) (tVar 0) (tC (.int 1))) (tOp rModI (tCB (rIntP) (tCons (tOp (rIx K) (tVar 0) (tC (.int 2))) tNil)) (tCB (rLenP K) (tCons (tOp (rIx K) (tVar 0) (tC (.int 1))) tNil)))) (gName 3))
  (tSeq (tAsg (tOp rModI (tCB (rIntP) (tCons (tOp (rAddP K) (tOp (rAddP K) (tOp (rMulP K) (tVar 3) (tC (.int 40692))) (tOp (rMulP K) (tOp (rIx K) (tVar 0) (tC (.int 2))) (tC (.int 52774)))) (tC (.int 3791))) tNil)) (tC (.int 2147483399))) (gName 4))
  (tSeq (tAsg (tOp rModI (tCB (rIntP) (tCons (tOp (rAddP K) (tOp (rAddP K) (tOp (rMulP K) (tVar 4) (tVar 4)) (tOp (rMulP K) (tOp (rIx K) (tVar 0) (tC (.int 2))) (tC (.int 9973)))) (tOp rDivI (tVar 3) (tC (.int 11)))) tNil)) (tC (.int 1999993))) (gName 4))
  (tSeq (tAsg (tOp rModI (tCB (rIntP) (tCons (tOp (rAddP K) (tOp (rAddP K) (tOp (rMulP K) (tOp (rMulP K) (tVar 4) (tVar 4)) (tC (.int 39373))) (tVar 3)) (tC (.int 101))) tNil)) (tC (.int 999999937))) (gName 4))
  (tRet (tOp rModI (tCB (rIntP) (tCons (tOp rDivI (tVar 4) (tC (.int 7))) tNil)) (tVar 1)))))))))))
section
variable {H : Hp} {b g c : Addr} {m : Int} {s2 s3 s4 s5 : Option V} {D : Ends} {K : PySem.W.Frag}
/-- what stands behind a draw -/
theorem draw_raw (hm : 0 < m) (hm2 : m < 1073741824) (j : BJ b g c H) (fin : ∀ (d : Int) H', 0 ≤ d → d < m → BJ b g c H' → (∀ a, a ≠ b → a ≠ g → a ≠ c → H' a = H a) → D.rt (.int d) H') :
    t_draw K D [some (.ref b), some (.int m), s2, s3, s4, s5] H := by
  obtain ⟨h1, h2, h3, n, gs, cs, q1, q2, q3, q4⟩ := j
  refine vl_op (vl_var rfl) vl_c (o_ix (u := .ref g) q1 rfl) _ ?_
  refine vl_op (vl_op (vl_var rfl) vl_c (o_ix (u := .int n) q1 rfl)) vl_c o_add _ ?_
  refine vl_var rfl _ (vl_c _ ⟨b, _, 2, 2, rfl, rfl, q1, rfl, ?_⟩)
  generalize hH1 : upd H b (.lst ([V.ref g, .ref c, .int n].set 2 (.int (n + 1)))) = H1
  have f1 : H1 b = some (.lst [.ref g, .ref c, .int (n + 1)]) := by rw [← hH1]; exact upd_same
  have f2 : H1 g = some (.lst (gs.map V.int)) := by rw [← hH1, upd_ne (Ne.symm h1)]; exact q2
  have f3 : H1 c = some (.lst (cs.map V.int)) := by rw [← hH1, upd_ne (Ne.symm h2)]; exact q3
  have f4 : ∀ a, a ≠ b → a ≠ g → a ≠ c → H1 a = H a := fun a z _ _ => by rw [← hH1, upd_ne z]
  clear hH1 q1 q2 q3
  -- the loop
  refine ⟨fun k σ' H' => ∃ gs' : List Int, k = gs'.length ∧ σ' = [some (.ref b), some (.int m), some (.ref g), s3, s4, s5] ∧ H' b = some (.lst [.ref g, .ref c, .int (n + 1)]) ∧ H' g = some (.lst (gs'.map V.int)) ∧ H' c = some (.lst (cs.map V.int)) ∧ ∀ a, a ≠ b → a ≠ g → a ≠ c → H' a = H a, ⟨_, gs, rfl, rfl, f1, f2, f3, f4⟩, ?_⟩
  rintro k σ' H' ⟨gs', rfl, rfl, f1, f2, f3, f4⟩
  have ln : Vl (tCB (rLenP K) (tCons (tVar 2) tNil)) [some (.ref b), some (.int m), some (.ref g), s3, s4, s5] H' (.int (gs'.map V.int).length) := vl_len (vl_var rfl) f2
  -- what comes behind the loop
  have rest : ∀ (gs' : List Int) (H' : Hp), H' b = some (.lst [.ref g, .ref c, .int (n + 1)]) → H' g = some (.lst (gs'.map V.int)) → H' c = some (.lst (cs.map V.int)) → (∀ a, a ≠ b → a ≠ g → a ≠ c → H' a = H a) →
      (tSeq (tIfS (tTest (tOp rGtI (tCB (rLenP K) (tCons (tVar 2) tNil)) (tC (.int 0)))) (tSeq (tAsg (tOp rModI (tCB (rIntP) (tCons (tOp (rIx K) (tVar 2) (tUn rNegI (tC (.int 1)))) tNil)) (tVar 1)) (gName 5))
  (tSeq (tAsg (tOp rDivI (tOp (rIx K) (tVar 2) (tUn rNegI (tC (.int 1)))) (tVar 1)) (gSub (tVar 2) (tUn rNegI (tC (.int 1))) rSetL))
  (tRet (tVar 5)))) tNext)
  (tSeq (tAsg (tOp (rIx K) (tOp (rIx K) (tVar 0) (tC (.int 1))) (tOp rModI (tCB (rIntP) (tCons (tOp (rIx K) (tVar 0) (tC (.int 2))) tNil)) (tCB (rLenP K) (tCons (tOp (rIx K) (tVar 0) (tC (.int 1))) tNil)))) (gName 3))
  (tSeq (tAsg (tOp rModI (tCB (rIntP) (tCons (tOp (rAddP K) (tOp (rAddP K) (tOp (rMulP K) (tVar 3) (tC (.int 40692))) (tOp (rMulP K) (tOp (rIx K) (tVar 0) (tC (.int 2))) (tC (.int 52774)))) (tC (.int 3791))) tNil)) (tC (.int 2147483399))) (gName 4))
  (tSeq (tAsg (tOp rModI (tCB (rIntP) (tCons (tOp (rAddP K) (tOp (rAddP K) (tOp (rMulP K) (tVar 4) (tVar 4)) (tOp (rMulP K) (tOp (rIx K) (tVar 0) (tC (.int 2))) (tC (.int 9973)))) (tOp rDivI (tVar 3) (tC (.int 11)))) tNil)) (tC (.int 1999993))) (gName 4))
  (tSeq (tAsg (tOp rModI (tCB (rIntP) (tCons (tOp (rAddP K) (tOp (rAddP K) (tOp (rMulP K) (tOp (rMulP K) (tVar 4) (tVar 4)) (tC (.int 39373))) (tVar 3)) (tC (.int 101))) tNil)) (tC (.int 999999937))) (gName 4))
  (tRet (tOp rModI (tCB (rIntP) (tCons (tOp rDivI (tVar 4) (tC (.int 7))) tNil)) (tVar 1)))))))) D [some (.ref b), some (.int m), some (.ref g), s3, s4, s5] H' := by
    intro gs' H' f1 f2 f3 f4
    have ln : Vl (tCB (rLenP K) (tCons (tVar 2) tNil)) [some (.ref b), some (.int m), some (.ref g), s3, s4, s5] H' (.int (gs'.map V.int).length) := vl_len (vl_var rfl) f2
    refine vl_op ln vl_c o_gt _ ⟨_, rfl, br (fun hlt => ?_) (fun hlt => ?_)⟩
    · have hlt : 0 < gs'.length := by simpa using hlt
      obtain ⟨gl, w, hw⟩ : ∃ gl w, gs' = gl ++ [w] := ⟨gs'.dropLast, gs'.getLast (by intro e; subst e; simp at hlt), (List.dropLast_concat_getLast _).symm⟩
      subst hw
      have at1 : atI ((gl ++ [w]).map V.int) (-1) = some (.int w) := by
        rw [List.map_append]
        exact at_last _ _
      have ix : ixN ((gl ++ [w]).map V.int).length (-1) = some gl.length := by
        rw [List.length_map, List.length_append, List.length_singleton, ix_last]
      refine vl_op (vl_int (vl_op (vl_var rfl) (vl_neg vl_c) (o_ix f2 at1))) (vl_var rfl) (o_mod hm) _ ?_
      refine vl_op (vl_op (vl_var rfl) (vl_neg vl_c) (o_ix f2 at1)) (vl_var rfl) (o_div ⟨hm, hm2⟩) _ ?_
      refine vl_var rfl _ (vl_neg vl_c _ ⟨g, _, -1, _, rfl, rfl, f2, ix, ?_⟩)
      refine vl_var rfl _ (fin _ _ (Int.emod_nonneg _ (by omega)) (Int.emod_lt_of_pos _ hm) ⟨h1, h2, h3, n + 1, gl ++ [w / m], cs, ?_, ?_, ?_, q4⟩ ?_)
      · rw [upd_ne h1]
        exact f1
      · rw [upd_same]
        simp
      · rw [upd_ne (Ne.symm h3)]
        exact f3
      · intro a a1 a2 a3
        rw [upd_ne a2]
        exact f4 a a1 a2 a3
    · have hl : (0 : Int) < (cs.map V.int).length := by
        cases cs with
        | nil => exact absurd rfl q4
        | cons => simp
      obtain ⟨ce, hce⟩ : ∃ ce : Int, atI (cs.map V.int) ((n + 1) % ((cs.map V.int).length : Int)) = some (.int ce) := by
        have e0 := Int.emod_nonneg (n + 1) (show ((cs.map V.int).length : Int) ≠ 0 by omega)
        have e1 := Int.emod_lt_of_pos (n + 1) hl
        have hk : ((n + 1) % ((cs.map V.int).length : Int)).toNat < cs.length := by
          simp only [List.length_map] at e0 e1 ⊢
          omega
        refine ⟨cs[((n + 1) % ((cs.map V.int).length : Int)).toNat], ?_⟩
        unfold atI ixN
        rw [if_pos e0, if_pos e1]
        simp only [Option.bind_some]
        rw [List.getElem?_map, List.getElem?_eq_getElem hk]
        rfl
      have b1 : ∀ s : L2.St, s[0]? = some (some (.ref b)) → Vl (tOp (rIx K) (tVar 0) (tC (.int 1))) s H' (.ref c) := fun s hs => vl_op (vl_var hs) vl_c (o_ix f1 rfl)
      have b2 : ∀ s : L2.St, s[0]? = some (some (.ref b)) → Vl (tOp (rIx K) (tVar 0) (tC (.int 2))) s H' (.int (n + 1)) := fun s hs => vl_op (vl_var hs) vl_c (o_ix f1 rfl)
      refine vl_op (b1 _ rfl) (vl_op (vl_int (b2 _ rfl)) (vl_len (b1 _ rfl) f3) (o_mod hl)) (o_ix f3 hce) _ ?_
      refine vl_op (vl_int (vl_op (vl_op (vl_op (vl_var rfl) vl_c (o_mul (.inr (by decide)))) (vl_op (b2 _ rfl) vl_c (o_mul (.inr (by decide)))) o_add) vl_c o_add)) vl_c (o_mod (by decide)) _ ?_
      generalize hm1 : (ce * 40692 + (n + 1) * 52774 + 3791) % 2147483399 = m1
      have m1a : 0 ≤ m1 := by rw [← hm1]; exact Int.emod_nonneg _ (by decide)
      have m1b : m1 < 2147483399 := by rw [← hm1]; exact Int.emod_lt_of_pos _ (by decide)
      refine vl_op (vl_int (vl_op (vl_op (vl_op (vl_var rfl) (vl_var rfl) (o_mul (i := m1) (j := m1) (.inl ⟨by omega, by omega⟩))) (vl_op (b2 _ rfl) vl_c (o_mul (.inr (by decide)))) o_add) (vl_op (vl_var rfl) vl_c (o_div (by decide))) o_add)) vl_c (o_mod (by decide)) _ ?_
      generalize hm2' : (m1 * m1 + (n + 1) * 9973 + ce / 11) % 1999993 = m2
      have m2a : 0 ≤ m2 := by rw [← hm2']; exact Int.emod_nonneg _ (by decide)
      have m2b : m2 < 1999993 := by rw [← hm2']; exact Int.emod_lt_of_pos _ (by decide)
      refine vl_op (vl_int (vl_op (vl_op (vl_op (vl_op (vl_var rfl) (vl_var rfl) (o_mul (i := m2) (j := m2) (.inl ⟨by omega, by omega⟩))) vl_c (o_mul (.inr (by decide)))) (vl_var rfl) o_add) vl_c o_add)) vl_c (o_mod (by decide)) _ ?_
      refine vl_op (vl_int (vl_op (vl_var rfl) vl_c (o_div (by decide)))) (vl_var rfl) (o_mod hm) _ ?_
      exact fin _ _ (Int.emod_nonneg _ (by omega)) (Int.emod_lt_of_pos _ hm) ⟨h1, h2, h3, n + 1, gs', cs, f1, f2, f3, q4⟩ f4
  show tAnd _ _ _ _ _
  refine vl_op ln vl_c o_gt _ ⟨_, rfl, ?_⟩
  refine br (fun hlt => ?_) (fun hlt => ?_)
  · have hlt : 0 < gs'.length := by simpa using hlt
    obtain ⟨gl, w, hw⟩ : ∃ gl w, gs' = gl ++ [w] := ⟨gs'.dropLast, gs'.getLast (by intro e; subst e; simp at hlt), (List.dropLast_concat_getLast _).symm⟩
    subst hw
    have at1 : atI ((gl ++ [w]).map V.int) (-1) = some (.int w) := by
      rw [List.map_append]
      exact at_last _ _
    refine vl_op (vl_op (vl_var rfl) (vl_neg vl_c) (o_ix f2 at1)) vl_c o_eq _ ⟨_, rfl, br (fun _ => ?_) (fun _ => ?_)⟩
    · refine ⟨fun σ' H' => ∃ k', k' < (gl ++ [w]).length ∧ ∃ gs' : List Int, k' = gs'.length ∧ σ' = [some (.ref b), some (.int m), some (.ref g), s3, s4, s5] ∧ H' b = some (.lst [.ref g, .ref c, .int (n + 1)]) ∧ H' g = some (.lst (gs'.map V.int)) ∧ H' c = some (.lst (cs.map V.int)) ∧ ∀ a, a ≠ b → a ≠ g → a ≠ c → H' a = H a, fun σ' H' z => z, ?_⟩
      refine ⟨.ref g, rfl, .inl ⟨rfl, _, .inl (.inl f2)⟩, g, _, .int w, rfl, rfl, f2, by simp, gl.length, by simp, gl, rfl, rfl, ?_, ?_, ?_, ?_⟩
      · rw [upd_ne h1]
        exact f1
      · rw [upd_same]
        simp
      · rw [upd_ne (Ne.symm h3)]
        exact f3
      · intro a a1 a2 a3
        rw [upd_ne a2]
        exact f4 a a1 a2 a3
    · exact rest _ _ f1 f2 f3 f4
  · exact rest _ _ f1 f2 f3 f4
end
end Mh
namespace Mh
open PySem PySem.Spec PyProof.Rows L2 TL
section
variable {K : PySem.W.Frag} {vs : List V} {H : Hp} {Q : VK} {E : XK}
theorem go_draw (h : sp_law_draw K vs H Q E) : t_draw K { nx := fun _ H' => Q .non H', rt := Q } (L2.start ["box", "limit", "great", "cell", "mixed", "digit"] vs) H := by
  obtain ⟨b, g, c, ks, S, Z, ⟨m, h0, h1, rfl, rfl, rfl⟩, r, f⟩ := h
  have hl := r.len
  match vs, hl with
  | [v, w], _ =>
    obtain ⟨v', e1, e2⟩ := r.sl 0 _ rfl
    obtain ⟨w', e3, e4⟩ := r.sl 1 _ rfl
    have e1 : v = v' := by simpa using e1
    have e3 : w = w' := by simpa using e3
    subst e1 e3
    have e2 : v = .ref b := e2
    subst e2
    obtain rfl := dp_int e4
    exact draw_raw h0 h1 r.j fun d H' d0 d1 j' k => f _ _ _ ⟨d, d0, d1, rfl⟩ ⟨⟨j', fun a o e n => (k a (fun z => n (.inl z)) (fun z => n (.inr (.inl z))) (fun z => n (.inr (.inr z)))).trans e⟩, .int d⟩
end
/-! ### _law_box -/
def sp_law_box (K : PySem.W.Frag) : Sp := fun vs H Q E => ∃ (l : Addr) (ns : List Int), vs = [.ref l] ∧ SqL K H l (ns.map V.int) ∧ ∀ b g c H', H b = none → H g = none → H c = none → BJ b g c H' → (∀ a o, H a = some o → H' a = some o) → Q (.ref b) H'
def t_box (K : PySem.W.Frag) : TS := (tSeq (tAsg (tLc (iAny K (tSl (rSlP K) (tVar 0) tNoPart (tPart (tC (.int 63))))) (gName 3) tYes (tCB (rAbs) (tCons (tCB (rIntP) (tCons (tVar 3) tNil)) tNil)) [3]) (gName 1))
  (tSeq (tAsg (tLc (iAny K (tVar 1)) (gName 3) (tTest (tOp rGeI (tVar 3) (tOp rPowI (tC (.int 10)) (tC (.int 18))))) (tVar 3) [3]) (gName 2))
  (tRet (tLst (tCons (tLstRev K (tVar 2)) (tCons (tOp (rAddP K) (tLc (iAny K (tVar 1)) (gName 3) tYes (tOp rModI (tCB (rIntP) (tCons (tVar 3) tNil)) (tC (.int 1000000007))) [3]) (tLst (tCons (tC (.int 7)) tNil))) (tCons (tC (.int 0)) tNil)))))))
theorem raw_seq {C : Ct} {t u : TS} {ρ : List Kd} {N : List Kd → Prop} {D : Ends} {σ : L2.St} {H : Hp} (h : BS C t ρ { nx := N }) (k : ∀ ρ' σ H, N ρ' → Rep C σ H ρ' → u D σ H) (r : Rep C σ H ρ) : tSeq t u D σ H :=
  h σ H r { D with nx := u D } ⟨fun ρ σ H n r => k ρ σ H n r, fun _ _ _ z => False.elim z, fun _ _ _ z => False.elim z, fun _ _ _ z => False.elim z⟩
def ii : PyData → Int
  | .int i => i
  | _ => 0
theorem take_ints (ns : List Int) : cutD (ns.map PyData.int) none (some 63) = (ns.take 63).map PyData.int := by
  unfold cutD
  rw [HT.sIx_none, show ((63 : Int)) = ((63 : Nat) : Int) from rfl, HT.sIx_nat]
  simp [List.map_take]
theorem map_ints (f : PyData → PyData) (g : Int → Int) (h : ∀ i, f (.int i) = .int (g i)) (ns : List Int) : (ns.map PyData.int).map f = (ns.map g).map PyData.int := by
  rw [List.map_map, List.map_map]
  exact List.map_congr_left fun i _ => h i
theorem fil_ints (p : PyData → Bool) (ns : List Int) : ((ns.map PyData.int).filter p).map id = (ns.filter fun i => p (.int i)).map PyData.int := by
  rw [List.map_id, List.filter_map]
  rfl
theorem go_box {K : PySem.W.Frag} {vs : List V} {H : Hp} {Q : VK} {E : XK} (h : sp_law_box K vs H Q E) : t_box K { nx := fun _ H' => Q .non H', rt := Q } (L2.start ["script", "cells", "great", "cell"] vs) H := by
  obtain ⟨l, ns, rfl, sq, fin⟩ := h
  let C : Ct := ⟨K, noF, noJ, H, false, [], fun _ _ _ => False, noZ⟩
  have ok : C.Ok := ⟨fun _ _ _ _ => trivial, fun _ _ _ f => f.elim, trivial, fun _ _ _ _ _ z => z.elim⟩
  have nown : ∀ a, ¬ Own [Kd.dat (.list (ns.map .int)), .un, .un, .un] a := by
    rintro a ⟨i, ds, e⟩
    match i with
    | 0 => cases e
    | 1 => cases e
    | 2 => cases e
    | 3 => cases e
    | i + 4 => simp at e
  have em : msk C [Kd.dat (.list (ns.map .int)), .un, .un, .un] H = H := by
    funext a
    unfold msk
    rw [if_neg]
    rintro (z | z | z)
    · exact nown a z
    · exact z
    · cases z.1
  have r0 : Rep C [some (.ref l), none, none, none] H [.dat (.list (ns.map .int)), .un, .un, .un] := by
    refine ⟨ok, trivial, fun a o e _ => e, rfl, fun i j l ds es e => (nown l ⟨i, ds, e⟩).elim, fun l o => (nown l o).elim, fun i k e => ?_, fun p hp => by cases hp⟩
    match i with
    | 0 =>
      cases e
      refine ⟨_, rfl, ?_⟩
      rw [em]
      exact .lst sq (DpAll.of_ints ns)
    | 1 => cases e; trivial
    | 2 => cases e; trivial
    | 3 => cases e; trivial
    | i + 4 => simp at e
  have cut : cutD (ns.map PyData.int) none (some 63) = (ns.take 63).map PyData.int := take_ints ns
  have cl : (ns.take 63).length ≤ 63 := by rw [List.length_take]; omega
  generalize hms : (ns.take 63) = ms at cut cl
  let cs1 : List PyData := (ms.map fun i => if i < 0 then -i else i).map .int
  have e1 : E1 C (tLc (iAny K (tSl (rSlP K) (tVar 0) tNoPart (tPart (tC (.int 63))))) (gName 3) tYes (tCB (rAbs) (tCons (tCB (rIntP) (tCons (tVar 3) tNil)) tNil)) [3]) [.dat (.list (ns.map .int)), .un, .un, .un] (.new cs1) := by
    have q := e_lcMap (C := C) (j := 3) (te := tCB (rAbs) (tCons (tCB (rIntP) (tCons (tVar 3) tNil)) tNil)) (fun d => .int (if ii d < 0 then -(ii d) else ii d)) (i_list (e_slL (C := C) (ρ := [.dat (.list (ns.map .int)), .un, .un, .un]) (k := .dat (.list (ns.map .int))) (e_var (i := 0) rfl) o_none (o_some (i := 63) e_int) rfl) rfl) rfl (by rw [cut, List.length_map]; exact Nat.le_trans cl (by decide)) (fun n a ha => ?_)
    · rw [cut, map_ints _ (fun i => if i < 0 then -i else i) (fun i => rfl)] at q
      exact q
    · rw [cut, List.getElem?_map] at ha
      cases hb : ms[n]? with
      | none => rw [hb] at ha; cases ha
      | some i =>
        rw [hb] at ha
        cases ha
        exact ⟨e_cb1 (a_cons (e_cb1 (a_cons (e_var rfl) a_nil) c_int) a_nil) c_abs, rfl⟩
  refine raw_seq (b_asg (P := { nx := fun ρ' => ∃ l, ρ' = [.dat (.list (ns.map .int)), .own l cs1, .un, .un] }) (i := 1) e1 ?_) ?_ r0
  · rintro z rfl
    exact fun l => ⟨l, rfl⟩
  rintro _ σ1 H1 ⟨l1, rfl⟩ r1
  have cl1 : cs1.length ≤ sizeLine := by
    show ((ms.map _).map _).length ≤ _
    rw [List.length_map, List.length_map]
    exact Nat.le_trans cl (by decide)
  let cs2 : List PyData := ((ms.map fun i => if i < 0 then -i else i).filter fun i => decide (1000000000000000000 ≤ i)).map .int
  have at1 : ∀ (n : Nat) (a : PyData), cs1[n]? = some a → ∃ i, a = .int i := fun n a ha => by
    have ha : ((ms.map fun i => if i < 0 then -i else i).map PyData.int)[n]? = some a := ha
    rw [List.getElem?_map] at ha
    cases hb : (ms.map fun i => if i < 0 then -i else i)[n]? with
    | none => rw [hb] at ha; cases ha
    | some i =>
      rw [hb] at ha
      cases ha
      exact ⟨i, rfl⟩
  have e2 : E1 C (tLc (iAny K (tVar 1)) (gName 3) (tTest (tOp rGeI (tVar 3) (tOp rPowI (tC (.int 10)) (tC (.int 18))))) (tVar 3) [3]) [.dat (.list (ns.map .int)), .own l1 cs1, .un, .un] (.new cs2) := by
    have q := e_lcFil (C := C) (j := 3) (te := tVar 3) (tt := tTest (tOp rGeI (tVar 3) (tOp rPowI (tC (.int 10)) (tC (.int 18))))) id (fun d => decide (1000000000000000000 ≤ ii d)) (i_list (C := C) (ρ := [.dat (.list (ns.map .int)), .own l1 cs1, .un, .un]) (k := .own l1 cs1) (e_var (i := 1) rfl) rfl) rfl cl1 (fun n a ha => ?_) (fun n a ha _ => ?_)
    · rw [fil_ints] at q
      exact q
    · obtain ⟨i, rfl⟩ := at1 n a ha
      exact t_test (e_op1 (e_var rfl) (e_op1 e_int e_int (k_pow_i ⟨by decide, by decide, by decide⟩)) k_ge)
    · obtain ⟨i, rfl⟩ := at1 n a ha
      exact ⟨e_var rfl, rfl⟩
  refine raw_seq (b_asg (P := { nx := fun ρ' => ∃ l, ρ' = [.dat (.list (ns.map .int)), .own l1 cs1, .own l cs2, .un] }) (i := 2) e2 ?_) ?_ r1
  · rintro z rfl
    exact fun l => ⟨l, rfl⟩
  rintro _ σ2 H2 ⟨l2, rfl⟩ r2
  have e3 : E1 C (tLstRev K (tVar 2)) [.dat (.list (ns.map .int)), .own l1 cs1, .own l2 cs2, .un] (.new cs2.reverse) := e_lstRev (C := C) (k := .own l2 cs2) (e_var rfl) rfl
  have e4 : E1 C (tOp (rAddP K) (tLc (iAny K (tVar 1)) (gName 3) tYes (tOp rModI (tCB (rIntP) (tCons (tVar 3) tNil)) (tC (.int 1000000007))) [3]) (tLst (tCons (tC (.int 7)) tNil))) [.dat (.list (ns.map .int)), .own l1 cs1, .own l2 cs2, .un] (.new ((((ms.map fun i => if i < 0 then -i else i).map fun i => i % 1000000007) ++ [7]).map PyData.int)) := by
    have q := e_lcMap (C := C) (j := 3) (te := tOp rModI (tCB (rIntP) (tCons (tVar 3) tNil)) (tC (.int 1000000007))) (fun d => .int (ii d % 1000000007)) (i_list (C := C) (ρ := [.dat (.list (ns.map .int)), .own l1 cs1, .own l2 cs2, .un]) (k := .own l1 cs1) (e_var (i := 1) rfl) rfl) rfl cl1 (fun n a ha => ?_)
    · rw [show cs1 = _ from rfl, map_ints _ (fun i => i % 1000000007) (fun i => rfl)] at q
      have q2 := e_op1 (C := C) q (e_lst (C := C) (ds := [.int 7]) (a_cons e_int a_nil) rfl) (k_add_l (C := C) rfl rfl (by simp; exact Nat.le_trans (Nat.add_le_add_right cl 1) (by decide)))
      exact q2.is (by simp)
    · obtain ⟨i, rfl⟩ := at1 n a ha
      exact ⟨e_op1 (e_cb1 (a_cons (e_var rfl) a_nil) c_int) e_int (k_mod_i (by decide)), rfl⟩
  unfold tRet tLst
  refine e3 σ2 H2 r2 (fun v3 H3 => tCons (tOp (rAddP K) (tLc (iAny K (tVar 1)) (gName 3) tYes (tOp rModI (tCB (rIntP) (tCons (tVar 3) tNil)) (tC (.int 1000000007))) [3]) (tLst (tCons (tC (.int 7)) tNil))) (tCons (tC (.int 0)) tNil) σ2 H3 fun vs H4 => (v3 :: vs).length ≤ sizeLine ∧ ∀ l, H4 l = none → Q (.ref l) (upd H4 l (.lst (v3 :: vs)))) fun k3 v3 H3 s3 q3 o3 => e4 σ2 H3 (r2.up q3) (fun v4 H4 => [v3, v4, .int 0].length ≤ sizeLine ∧ ∀ l, H4 l = none → Q (.ref l) (upd H4 l (.lst [v3, v4, .int 0]))) fun k4 v4 H4 s4 q4 o4 => ?_
  subst s3 s4
  have o3' := o3.up r2 q4
  obtain ⟨g, vg, rfl, g1, g2, g3⟩ := o3'
  obtain ⟨c, vc, rfl, c1, c2, c3⟩ := o4
  obtain ⟨g', vg', eg, g1', g2', _⟩ := o3
  cases eg
  rw [show cs2.reverse = _ from rfl, ← List.map_reverse] at g3
  have g4 := DpAll.ints g3
  have c4 := DpAll.ints c3
  subst g4 c4
  have ngc : g ≠ c := fun e => by
    rw [e] at g2'
    rw [c1] at g2'
    cases g2'
  refine ⟨show 3 ≤ sizeLine by decide, fun b hb => ?_⟩
  have h0 : ∀ a o, H a = some o → H4 a = some o := fun a o e => q4.2 _ _ (q3.2 _ _ (r2.old a o e id) id) id
  have nb : ∀ a, H4 a = none → H a = none := fun a e => by
    cases z : H a with
    | none => rfl
    | some o =>
      rw [h0 a o z] at e
      cases e
  refine fin b g c _ (nb b hb) ?_ ?_ ⟨ne_of_none g2 hb |>.symm, ne_of_none c2 hb |>.symm, ngc, 0, _, _, upd_same, (upd_ne (ne_of_none g2 hb)).trans g2, (upd_ne (ne_of_none c2 hb)).trans c2, by simp⟩ ?_
  · exact r2.h0 g1
  · cases z : H c with
    | none => rfl
    | some o =>
      have := q3.2 _ _ (r2.old c o z id) id
      rw [c1] at this
      cases this
  · intro a o e
    rw [upd_ne (ne_of_none (h0 a o e) hb)]
    exact h0 a o e
end Mh
namespace Mh
open PySem PySem.Spec PyProof.Rows L2 TL
def t_is_figure (K : PySem.W.Frag) : TS := (tRet (tAndV (tOp (rNeP K) (tVar 0) (tC (.str ""))) (tOp rInS (tVar 0) (tC (.str "0123456789")))))
def t_figures_end (K : PySem.W.Frag) : TS := (tSeq (tAsg (tVar 1) (gName 2))
  (tSeq (tWhile (tTru K (tCall (sp_is_figure K) [] E0 (tCons (tSl (rSlP K) (tVar 0) (tPart (tVar 2)) (tPart (tOp (rAddP K) (tVar 2) (tC (.int 1))))) tNil))) (tAug 2 (tC (.int 1)) (ipI fun i j => i + j)))
  (tRet (tVar 2))))
def t_are_figures (K : PySem.W.Frag) : TS := (tSeq (tIfS (tOr (tTest (tOp (rEqP K) (tVar 0) (tC (.str "")))) (tTest (tOp (rNeP K) (tCall (sp_figures_end K) [] E0 (tCons (tVar 0) (tCons (tC (.int 0)) tNil))) (tCB (rLenP K) (tCons (tVar 0) tNil))))) (tRet (tC (.bl false))) tNext)
  (tRet (tOrV (tOp (rEqP K) (tVar 0) (tC (.str "0"))) (tOp (rNeP K) (tOp (rIx K) (tVar 0) (tC (.int 0))) (tC (.str "0"))))))
def t_number_of (K : PySem.W.Frag) : TS := (tSeq (tIfS (tOr (tTest (tOp rGtI (tCB (rLenP K) (tCons (tVar 0) tNil)) (tVar 1))) (tNot (tTru K (tCall (sp_are_figures K) [] E0 (tCons (tVar 0) tNil))))) (tRet (tC .non)) tNext)
  (tRet (tCB (rIntP) (tCons (tVar 0) tNil))))
def t_atom_text (K : PySem.W.Frag) : TS := (tSeq (tIfS (tTest (tOp rIsN (tVar 0) (tC .non))) (tRet (tC (.str "-"))) tNext)
  (tSeq (tIfS (tTru K (tCB (rIsi K) (tCons (tVar 0) (tCons (tC (.ty "str")) tNil)))) (tRet (tOp (rAddP K) (tOp (rAddP K) (tC (.str "\"")) (tVar 0)) (tC (.str "\"")))) tNext)
  (tRet (tCB (rStrP) (tCons (tVar 0) tNil)))))
def t_text_of (K : PySem.W.Frag) : TS := (tSeq (tAsg (tLst tNil) (gName 1))
  (tSeq (tAsg (tLst (tCons (tTup (tCons (tC (.bl true)) (tCons (tVar 0) tNil))) tNil)) (gName 2))
  (tSeq (tWhile (tTru K (tVar 2)) (tSeq (tAsg (tBM0 K "list" rPop (tVar 2)) (gTup K 2 (gCons (gName 3) (gCons (gName 4) gNil))))
  (tIfS (tNot (tTru K (tVar 3))) (tDrop (tBM K "list" rAppend (tVar 1) (tCons (tVar 4) tNil))) (tIfS (tTru K (tCB (rIsi K) (tCons (tVar 4) (tCons (tC (.ty "tuple")) tNil)))) (tSeq (tDrop (tBM K "list" rAppend (tVar 1) (tCons (tC (.str "(")) tNil)))
  (tSeq (tDrop (tBM K "list" rAppend (tVar 2) (tCons (tTup (tCons (tC (.bl false)) (tCons (tC (.str ")")) tNil))) tNil)))
  (tFor (RT.iRevA K (tVar 4)) (gName 5) (tSeq (tDrop (tBM K "list" rAppend (tVar 2) (tCons (tTup (tCons (tC (.bl false)) (tCons (tC (.str ",")) tNil))) tNil)))
  (tDrop (tBM K "list" rAppend (tVar 2) (tCons (tTup (tCons (tC (.bl true)) (tCons (tVar 5) tNil))) tNil))))))) (tDrop (tBM K "list" rAppend (tVar 1) (tCons (tCall (sp_atom_text K) [] E0 (tCons (tVar 4) tNil)) tNil)))))))
  (tRet (tM1 (rJoin K) (tC (.str "")) (tVar 1))))))
def t_is_letter (K : PySem.W.Frag) : TS := (tRet (tAndV (tOp (rNeP K) (tVar 0) (tC (.str ""))) (tOp rInS (tVar 0) (tC (.str "abcdefghijklmnopqrstuvwxyz")))))
def t_told (K : PySem.W.Frag) : TS := (tRet (tCall (sp_text_of K) [] E0 (tCons (tVar 0) tNil)))

section
variable {K : PySem.W.Frag} {vs : List V} {H : Hp} {Q : VK} {E : XK}
theorem go_is_figure (h : sp_is_figure K vs H Q E) : t_is_figure K { nx := fun _ H' => Q .non H', rt := Q } (L2.start ["sign"] vs) H := by
  refine sp_body ?_ h
  rintro H E ks S Z ⟨o, rfl, rfl, rfl⟩ n _
  change BS _ _ [.dat (.str (sg o))] _
  refine b_ret (d := .bool (o.any fig)) ((e_and (a := !o.isNone) (b := o.any fig) ((e_op1 (e_var rfl) e_str k_ne_s).is (by rw [sg_ne])) fun hn => ?_).is ?_) rfl rfl
  · cases o with
    | none => cases hn
    | some c => exact (e_op1 (C := ⟨K, noF, noJ, H, false, [], E, noZ⟩) (e_var rfl) e_str k_inS).is (by rw [mem_digs]; rfl)
  · cases o <;> simp
theorem go_is_letter (h : sp_is_letter K vs H Q E) : t_is_letter K { nx := fun _ H' => Q .non H', rt := Q } (L2.start ["sign"] vs) H := by
  refine sp_body ?_ h
  rintro H E ks S Z ⟨o, rfl, rfl, rfl⟩ n _
  change BS _ _ [.dat (.str (sg o))] _
  refine b_ret (d := .bool (o.any ltr)) ((e_and (a := !o.isNone) (b := o.any ltr) ((e_op1 (e_var rfl) e_str k_ne_s).is (by rw [sg_ne])) fun hn => ?_).is ?_) rfl rfl
  · cases o with
    | none => cases hn
    | some c => exact (e_op1 (C := ⟨K, noF, noJ, H, false, [], E, noZ⟩) (e_var rfl) e_str k_inS).is (by rw [mem_ltrs]; rfl)
  · cases o <;> simp
/-- the loop over signs of a kind -/
theorem b_signs {C : Ct} {sp : Sp} {p : Nat → Bool} (hsp : sp = SpP C.K (A_sg p)) {z : Str} {a : Nat} (hz : z.length ≤ sizeLine) (ha : a ≤ z.length) {u : TS} {P : Po} (h : BS C u [.dat (.str z), .dat (.int (a : Int)), .dat (.int ((a + (tw p z a).length : Nat) : Int))] P) :
    BS C (tSeq (tAsg (tVar 1) (gName 2)) (tSeq (tWhile (tTru C.K (tCall sp [] E0 (tCons (tSl (rSlP C.K) (tVar 0) (tPart (tVar 2)) (tPart (tOp (rAddP C.K) (tVar 2) (tC (.int 1))))) tNil))) (tAug 2 (tC (.int 1)) (ipI fun i j => i + j))) u)) [.dat (.str z), .dat (.int (a : Int)), .un] P := by
  subst hsp
  refine q_asg (e_var rfl) (b_seq ?_)
  refine b_while (T := fun ρ b => ∃ k : Nat, k ≤ (tw p z a).length ∧ ρ = [.dat (.str z), .dat (.int (a : Int)), .dat (.int ((a + k : Nat) : Int))] ∧ b = decide (k < (tw p z a).length))
    (fun m ρ => ∃ k : Nat, k + m = (tw p z a).length ∧ ρ = [.dat (.str z), .dat (.int (a : Int)), .dat (.int ((a + k : Nat) : Int))]) (tw p z a).length ⟨0, by omega, rfl⟩ ?_ ?_ ?_
  · rintro m _ ⟨k, hk, rfl⟩
    refine t_truS (b := true) (e_callP (ks' := [.dat (.str (sg (tl z)[a + k]?))]) (a_cons (e_sign (p := a + k) rfl rfl hz) a_nil) (.cons (.dat fun h => by cases h) .nil) ⟨_, rfl, rfl, rfl⟩ fun k h => h) ?_
    rintro _ rfl
    refine ⟨_, rfl, k, by omega, rfl, ?_⟩
    have := tw_at p ((tl z).drop a) k (by show k ≤ (tw p z a).length; omega)
    rw [List.getElem?_drop] at this
    exact this
  · rintro m _ ⟨k, hk, rfl⟩ ⟨k', hk', e, hb⟩
    have hk2 : k = k' := by
      simp at e
      omega
    subst hk2
    have : ¬ k < (tw p z a).length := by simpa using hb.symm
    have e2 : k = (tw p z a).length := by omega
    rw [e2]
    exact h
  · rintro m _ ⟨k, hk, rfl⟩ ⟨k', hk', e, hb⟩
    have hk2 : k = k' := by
      simp at e
      omega
    subst hk2
    have hlt : k < (tw p z a).length := by simpa using hb.symm
    refine b_aug (a := ((a + k : Nat) : Int)) (b := 1) rfl e_int ⟨m - 1, by omega, k + 1, by omega, ?_⟩
    show [Kd.dat (.str z), .dat (.int (a : Int)), .dat (.int (((a + k : Nat) : Int) + 1))] = _
    rw [show ((a + k : Nat) : Int) + 1 = ((a + (k + 1) : Nat) : Int) by omega]
theorem go_figures_end (h : sp_figures_end K vs H Q E) : t_figures_end K { nx := fun _ H' => Q .non H', rt := Q } (L2.start ["text", "at", "end"] vs) H := by
  refine sp_body ?_ h
  rintro H E ks S Z ⟨z, p, rfl, hp, hz, rfl, rfl⟩ n _
  change BS _ _ [.dat (.str z), .dat (.int p), .un] _
  exact b_signs (C := ⟨K, noF, noJ, H, false, [], E, noZ⟩) rfl hz hp (b_ret (e_var rfl) rfl rfl)
theorem tl_nil {z : Str} : decide (z = ("" : Str)) = decide (tl z = []) := by
  refine decide_eq_decide.mpr ⟨fun h => by rw [h]; rfl, fun h => ext_tl (by rw [h]; rfl)⟩
theorem tl_zero {z : Str} : decide (z = ("0" : Str)) = decide (tl z = [48]) := by
  refine decide_eq_decide.mpr ⟨fun h => by rw [h]; rfl, fun h => ext_tl (by rw [h]; rfl)⟩
theorem go_are_figures (h : sp_are_figures K vs H Q E) : t_are_figures K { nx := fun _ H' => Q .non H', rt := Q } (L2.start ["word"] vs) H := by
  refine sp_body ?_ h
  rintro H E ks S Z ⟨z, rfl, hz, rfl, rfl⟩ n _
  change BS ⟨K, noF, noJ, H, false, [], E, noZ⟩ _ [.dat (.str z)] _
  have t1 : T1 ⟨K, noF, noJ, H, false, [], E, noZ⟩ (tOr (tTest (tOp (rEqP K) (tVar 0) (tC (.str "")))) (tTest (tOp (rNeP K) (tCall (sp_figures_end K) [] E0 (tCons (tVar 0) (tCons (tC (.int 0)) tNil))) (tCB (rLenP K) (tCons (tVar 0) tNil))))) [.dat (.str z)] (decide (tl z = []) || !(tl z).all fig) := by
    refine t_or (t_test ((e_op1 (C := ⟨K, noF, noJ, H, false, [], E, noZ⟩) (e_var rfl) e_str k_eq_s).is (by rw [tl_nil]))) fun _ => t_test ?_
    refine (e_op1 (C := ⟨K, noF, noJ, H, false, [], E, noZ⟩) (e_callP (ks' := [.dat (.str z), .dat (.int ((0 : Nat) : Int))]) (a_cons (e_var rfl) (a_cons e_int a_nil)) (.cons (.dat fun h => by cases h) (.cons (.dat fun h => by cases h) .nil)) ⟨z, 0, rfl, Nat.zero_le _, hz, rfl, rfl⟩ fun k h => h) (e_cb1 (a_cons (e_var rfl) a_nil) (c_lenS hz)) k_ne_i).is ?_
    have e0 := tw_all (p := fig) (tl z)
    have e1 : decide (((0 + (tw fig z 0).length : Nat) : Int) = (z.length : Int)) = (tl z).all fig := by
      rw [← e0]
      refine decide_eq_decide.mpr ?_
      unfold tw
      rw [List.drop_zero, len_tl]
      omega
    rw [e1]
  refine q_when t1 (fun hb => b_ret e_bl rfl ?_) fun hb => ?_
  · have hf : arf (tl z) = false := by
      unfold arf
      have hb := hb.symm
      rw [Bool.or_eq_true] at hb
      rcases hb with hb | hb
      · have hb : tl z = [] := by simpa using hb
        rw [hb]
        rfl
      · have hb : (tl z).all fig = false := by simpa using hb
        rw [hb]
        rfl
    rw [hf]
  · have hb := hb.symm
    rw [Bool.or_eq_false_iff] at hb
    have hne : tl z ≠ [] := by simpa using hb.1
    have hall : (tl z).all fig = true := by simpa using hb.2
    obtain ⟨c, r, hc⟩ := List.exists_cons_of_ne_nil hne
    refine b_ret (d := .bool (arf (tl z))) ((e_or (a := decide (tl z = [48])) (b := !decide (c = 48)) ((e_op1 (C := ⟨K, noF, noJ, H, false, [], E, noZ⟩) (e_var rfl) e_str k_eq_s).is (by rw [tl_zero])) fun _ => ?_).is ?_) rfl rfl
    · refine (e_op1 (C := ⟨K, noF, noJ, H, false, [], E, noZ⟩) (e_op1 (C := ⟨K, noF, noJ, H, false, [], E, noZ⟩) (e_var rfl) e_int (k_ixS hz (c := c) (by rw [hc]; exact at_nat (n := 0) rfl))) e_str k_ne_s).is ?_
      have e3 : decide ((⟨#[c]⟩ : Str) = ("0" : Str)) = decide (c = 48) := by
        rw [tl_zero]
        refine decide_eq_decide.mpr ?_
        show [c] = [48] ↔ c = 48
        simp
      rw [e3]
    · unfold arf
      rw [hall, Bool.true_and]
      congr 2
      congr 1
      rw [hc]
theorem arf_fig {w : List Nat} (h : arf w = true) : (w.all (fun c => decide (48 ≤ c) && decide (c ≤ 57)) = true) ∧ w ≠ [] := by
  unfold arf at h
  rw [Bool.and_eq_true] at h
  refine ⟨h.1, fun e => ?_⟩
  rw [e] at h
  exact absurd h.2 (by decide)
theorem go_number_of (h : sp_number_of K vs H Q E) : t_number_of K { nx := fun _ H' => Q .non H', rt := Q } (L2.start ["word", "most"] vs) H := by
  refine sp_body ?_ h
  rintro H E ks S Z ⟨z, m, rfl, hz, hm, rfl, rfl⟩ n _
  change BS ⟨K, noF, noJ, H, false, [], E, noZ⟩ _ [.dat (.str z), .dat (.int m)] _
  have t1 : T1 ⟨K, noF, noJ, H, false, [], E, noZ⟩ (tOr (tTest (tOp rGtI (tCB (rLenP K) (tCons (tVar 0) tNil)) (tVar 1))) (tNot (tTru K (tCall (sp_are_figures K) [] E0 (tCons (tVar 0) tNil))))) [.dat (.str z), .dat (.int m)] (decide (m < (z.length : Int)) || !arf (tl z)) :=
    t_or (t_test (e_op1 (C := ⟨K, noF, noJ, H, false, [], E, noZ⟩) (e_cb1 (a_cons (e_var rfl) a_nil) (c_lenS hz)) (e_var rfl) k_gt)) fun _ => t_not (t_tru (C := ⟨K, noF, noJ, H, false, [], E, noZ⟩) (e_callP (ks' := [.dat (.str z)]) (a_cons (e_var rfl) a_nil) (.cons (.dat fun h => by cases h) .nil) ⟨z, rfl, hz, rfl, rfl⟩ fun k h => h) rfl)
  refine q_when t1 (fun hb => b_ret e_non rfl ?_) fun hb => ?_
  · show _ = _
    unfold numV
    rw [← hb]
    rfl
  · have hb2 := hb.symm
    rw [Bool.or_eq_false_iff] at hb2
    have hl : (z.length : Int) ≤ m := by simpa using hb2.1
    have ha : arf (tl z) = true := by simpa using hb2.2
    obtain ⟨h1, h2⟩ := arf_fig ha
    have hi := SX.int_S h1 h2 (by rw [← len_tl]; omega)
    rw [show (SX.S (tl z)) = z from SX.S_tl z] at hi
    refine b_ret (e_cb1 (C := ⟨K, noF, noJ, H, false, [], E, noZ⟩) (a_cons (e_var rfl) a_nil) (c_intS hi (by omega))) rfl ?_
    show _ = _
    unfold numV
    rw [← hb]
    rfl

theorem quo : tl ("\"" : Str) = [34] := by decide +kernel
theorem go_atom_text (h : sp_atom_text K vs H Q E) : t_atom_text K { nx := fun _ H' => Q .non H', rt := Q } (L2.start ["value"] vs) H := by
  refine sp_body ?_ h
  rintro H E ks S Z ⟨d, rfl, hg, ht, hl, rfl, rfl⟩ n _
  change BS ⟨K, noF, noJ, H, false, [], E, noZ⟩ _ [.dat d] _
  refine q_when (t_test (C := ⟨K, noF, noJ, H, false, [], E, noZ⟩) (e_op1 (e_var rfl) e_non k_isN)) (fun hb => b_ret e_str rfl ?_) fun hb => ?_
  · cases d with
    | none => rfl
    | _ => cases hb
  cases d with
  | none => cases hb
  | bool b => cases hg
  | list xs => cases hg
  | dict xs => cases hg
  | tuple xs => cases ht
  | str x =>
    refine q_when (T := fun b => b = true) (t_tru (e_isi (C := ⟨K, noF, noJ, H, false, [], E, noZ⟩) (tc := tC .non) (e_var rfl) rfl (b := true) (by decide +kernel)) rfl) (fun _ => ?_) (fun h => by cases h)
    have hx : x.length ≤ 100000 := by
      rw [txt] at hl
      rw [len_tl]
      simp at hl ⊢
      omega
    have h1 : (("\"" : Str)).length = 1 := by decide +kernel
    refine b_ret ((e_op1 (C := ⟨K, noF, noJ, H, false, [], E, noZ⟩) (e_op1 (C := ⟨K, noF, noJ, H, false, [], E, noZ⟩) e_str (e_var rfl) (k_add_s (by rw [h1]; exact Nat.le_trans (Nat.add_le_add_left hx 1) (by decide)))) e_str (k_add_s ?_)).is ?_) rfl rfl
    · rw [len_tl, tl_append, List.length_append, ← len_tl, ← len_tl, h1]
      exact Nat.le_trans (Nat.add_le_add_right (Nat.add_le_add_left hx 1) 1) (by decide)
    · refine congrArg (fun z => Kd.dat (PyData.str z)) (ext_tl ?_)
      rw [tl_append, tl_append, quo, txt]
      rfl
  | int i =>
    have h2 : 0 ≤ i ∧ i < 10 ^ 40 := by simpa [gd] using hg
    refine q_when (T := fun b => b = false) (t_tru (e_isi (C := ⟨K, noF, noJ, H, false, [], E, noZ⟩) (tc := tC .non) (e_var rfl) rfl (b := false) (by decide +kernel)) rfl) (fun h => by cases h) (fun _ => ?_)
    refine b_ret ((e_cb1 (C := ⟨K, noF, noJ, H, false, [], E, noZ⟩) (a_cons (e_var rfl) a_nil) (c_str (log_lt h2.1 h2.2))).is ?_) rfl rfl
    refine congrArg (fun z => Kd.dat (PyData.str z)) (ext_tl ?_)
    exact num_str h2.1
/-! ### text_of -/
/-- what waits, top last in the list -/
inductive Wt : List PyData → List Nat → Nat → Prop where
  | nil : Wt [] [] 0
  | val {d : PyData} {r : List PyData} {t : List Nat} {m : Nat} : gd d = true → Wt r t m → Wt (r ++ [.tuple [.bool true, d]]) (txt d ++ t) (m + 2 * (txt d).length)
  | pc {z : Str} {r : List PyData} {t : List Nat} {m : Nat} : tl z ≠ [] → Wt r t m → Wt (r ++ [.tuple [.bool false, .str z]]) (tl z ++ t) (m + 1)
mutual
theorem txt_pos : ∀ d, 1 ≤ (txt d).length
  | .str _ => by rw [txt]; simp
  | .int i => by
    rw [txt]
    have := numL_ne i.toNat
    exact List.length_pos_iff.mpr this
  | .tuple _ => by rw [txt]; simp
  | .none => by rw [txt]; simp; all_goals nofun
  | .bool _ => by rw [txt]; simp; all_goals nofun
  | .list _ => by rw [txt]; simp; all_goals nofun
  | .dict _ => by rw [txt]; simp; all_goals nofun
end
theorem Wt.len {W : List PyData} {t : List Nat} {m : Nat} (h : Wt W t m) : W.length ≤ m := by
  induction h with
  | nil => exact Nat.le_refl _
  | @val d r t m _ _ ih =>
    have := txt_pos d
    rw [List.length_append, List.length_singleton]
    omega
  | pc _ _ ih =>
    rw [List.length_append, List.length_singleton]
    omega
theorem joinL0 : ∀ l : List (List Nat), joinL [] l = l.flatten
  | [] => rfl
  | [x] => by simp [joinL]
  | x :: y :: r => by
    have := joinL0 (y :: r)
    simp only [joinL, this]
    simp
theorem tl_join0 (zs : List Str) : tl (Txt.join ("" : Str) zs) = (zs.map tl).flatten := by
  rw [join_eq, tl_join, show tl ("" : Str) = [] from rfl, joinL0]
theorem gdAll_get : ∀ {ds : List PyData} {i : Nat} {d : PyData}, gdAll ds = true → ds[i]? = some d → gd d = true
  | x :: xs, 0, d, h, e => by
    simp at e
    subst e
    simp [gdAll] at h
    exact h.1
  | x :: xs, i + 1, d, h, e => by
    simp [gdAll] at h
    exact gdAll_get h.2 (by simpa using e)
theorem fl_snoc (pz : List Str) (z : Str) : ((pz ++ [z]).map tl).flatten = (pz.map tl).flatten ++ tl z := by simp
theorem com1 : tl ("," : Str) = [44] := by decide +kernel
theorem par1 : tl ("(" : Str) = [40] := by decide +kernel
theorem par2 : tl (")" : Str) = [41] := by decide +kernel
theorem sl_big : 1000000 ≤ sizeLine := by decide
theorem go_text_of (h : sp_text_of K vs H Q E) : t_text_of K { nx := fun _ H' => Q .non H', rt := Q } (L2.start ["value", "pieces", "waiting", "is_value", "one", "member"] vs) H := by
  refine sp_body ?_ h
  rintro H E ks S Z ⟨d, rfl, hg, hl, rfl, rfl⟩ n _
  change BS ⟨K, noF, noJ, H, false, [], E, noZ⟩ _ [.dat d, .un, .un, .un, .un, .un] _
  generalize hC : (⟨K, noF, noJ, H, false, [], E, noZ⟩ : Ct) = C
  have hK : C.K = K := by rw [← hC]
  rw [← hK]
  refine q_asgN (e_lst a_nil rfl) fun lp => ?_
  refine q_asgN (e_lst (a_cons (e_tup (a_cons e_bl (a_cons (e_var rfl) a_nil)) rfl) a_nil) rfl) fun lw => b_seq ?_
  refine b_while (T := fun ρ b => ∀ x W, ρ[2]? = some (.own x W) → b = !W.isEmpty) (fun m ρ => ∃ (pz : List Str) (W : List PyData) (t : List Nat) (x y z : Kd), ρ = [.dat d, .own lp (pz.map .str), .own lw W, x, y, z] ∧ Wt W t m ∧ (pz.map tl).flatten ++ t = txt d ∧ pz.length ≤ ((pz.map tl).flatten).length ∧ m ≤ 200000) (2 * (txt d).length) ?_ ?_ ?_ ?_
  · exact ⟨[], _, txt d, .un, .un, .un, rfl, by simpa using Wt.val hg Wt.nil, by simp, by simp, by omega⟩
  · rintro m _ ⟨pz, W, t, x, y, z, rfl, hw, ht, hp, hm⟩
    refine (t_tru (e_var rfl) rfl).imp ?_
    rintro b rfl x' W' e
    cases e
    rfl
  · rintro m _ ⟨pz, W, t, x, y, z, rfl, hw, ht, hp, hm⟩ hb
    have hb := hb _ _ rfl
    have hW : W = [] := by
      cases W with
      | nil => rfl
      | cons => cases hb
    subst hW
    have h0 : t = [] := by
      generalize hq : ([] : List PyData) = W at hw
      cases hw with
      | nil => rfl
      | val => simp at hq
      | pc => simp at hq
    subst h0
    rw [List.append_nil] at ht
    have hs : (pz.map (·.length)).sum = ((pz.map tl).flatten).length := by
      rw [List.length_flatten, List.map_map]
      congr 1
    refine b_ret ((e_join (zs := pz) e_str (e_var rfl) rfl ?_).is ?_) rfl rfl
    · rw [hs, ht, show (("" : Str)).length = 0 from rfl]
      omega
    · refine congrArg (fun z => Kd.dat (PyData.str z)) (ext_tl ?_)
      rw [tl_join0, ht]
  · rintro m _ ⟨pz, W, t, x, y, z, rfl, hw, ht, hp, hm⟩ hb
    have hb := hb _ _ rfl
    have hpz : pz.length ≤ 100000 := by
      have : ((pz.map tl).flatten ++ t).length = (txt d).length := by rw [ht]
      rw [List.length_append] at this
      omega
    have hpl : (pz.map PyData.str).length < sizeLine := by
      rw [List.length_map]
      have := sl_big
      omega
    cases hw with
    | nil => cases hb
    | @pc z1 r t1 m1 hz hw1 =>
      refine b_seq (b_pop2 (n := 3) (j := 4) (i := 2) (ds := r) (d := .bool false) (e := .str z1) (by decide) rfl (by decide) (by decide) ?_)
      refine b_if (T := fun b => b = true) (t_not (a := false) (t_tru (e_var rfl) rfl)) (fun _ => ?_) (fun h => by cases h)
      refine b_app rfl (e_var rfl) hpl ⟨m1, by omega, pz ++ [z1], r, t1, .dat (.bool false), .dat (.str z1), z, ?_, hw1, ?_, ?_, by omega⟩
      · rw [List.map_append]
        rfl
      · rw [← ht, fl_snoc, List.append_assoc]
      · have : 1 ≤ (tl z1).length := List.length_pos_iff.mpr hz
        rw [fl_snoc, List.length_append, List.length_append, List.length_singleton]
        omega
    | @val d1 r t1 m1 hg1 hw1 =>
      refine b_seq (b_pop2 (n := 3) (j := 4) (i := 2) (ds := r) (d := .bool true) (e := d1) (by decide) rfl (by decide) (by decide) ?_)
      refine b_if (T := fun b => b = false) (t_not (a := true) (t_tru (e_var rfl) rfl)) (fun h => by cases h) (fun _ => ?_)
      have h1 : (txt d1).length ≤ 100000 := by
        have : ((pz.map tl).flatten ++ (txt d1 ++ t1)).length = (txt d).length := by rw [ht]
        rw [List.length_append, List.length_append] at this
        omega
      have hpos := txt_pos d1
      have push : ∀ (nx : List Kd → Prop), (nx [.dat d, .own lp ((pz ++ [(⟨(txt d1).toArray⟩ : Str)]).map .str), .own lw r, .dat (.bool true), .dat d1, z]) → isTup d1 = false → BS C (tDrop (tBM C.K "list" rAppend (tVar 1) (tCons (tCall (sp_atom_text C.K) [] E0 (tCons (tVar 4) tNil)) tNil))) [.dat d, .own lp (pz.map .str), .own lw r, .dat (.bool true), .dat d1, z] { nx := nx } := by
        intro nx hnx hi
        rw [List.map_append] at hnx
        exact b_app (C := C) (i := 1) (l := lp) (ds := pz.map .str) (d := .str ⟨(txt d1).toArray⟩) rfl (e_callP (A := A_atxt) (ks := [.dat d1]) (ks' := [.dat d1]) (a_cons (e_var rfl) a_nil) (.cons (.dat fun h => by cases h) .nil) ⟨d1, rfl, hg1, hi, h1, rfl, rfl⟩ fun k h => h) hpl hnx
      have atom : isTup d1 = false → ∀ P : Po, P.nx = (fun r => ∃ m', m' < m1 + 2 * (txt d1).length ∧ ∃ (pz : List Str) (W : List PyData) (t : List Nat) (x y z : Kd), r = [.dat d, .own lp (pz.map .str), .own lw W, x, y, z] ∧ Wt W t m' ∧ (pz.map tl).flatten ++ t = txt d ∧ pz.length ≤ ((pz.map tl).flatten).length ∧ m' ≤ 200000) → BS C (tDrop (tBM C.K "list" rAppend (tVar 1) (tCons (tCall (sp_atom_text C.K) [] E0 (tCons (tVar 4) tNil)) tNil))) [.dat d, .own lp (pz.map .str), .own lw r, .dat (.bool true), .dat d1, z] P := by
        intro hi P hP
        refine (push P.nx ?_ hi).imp (fun _ h => h) (fun _ h => h.elim) (fun _ h => h.elim) (fun _ h => h.elim)
        rw [hP]
        refine ⟨m1, by omega, pz ++ [⟨(txt d1).toArray⟩], r, t1, _, _, z, rfl, hw1, ?_, ?_, by omega⟩
        · rw [← ht, fl_snoc, List.append_assoc]
        · rw [fl_snoc, List.length_append, List.length_append, List.length_singleton]
          show _ ≤ _ + (txt d1).length
          omega
      cases d1 with
      | none => exact b_if (T := fun b => b = false) (t_tru (e_isi (tc := tC .non) (e_var rfl) rfl (b := false) (by decide +kernel)) rfl) (fun h => by cases h) (fun _ => atom rfl _ rfl)
      | str x1 => exact b_if (T := fun b => b = false) (t_tru (e_isi (tc := tC .non) (e_var rfl) rfl (b := false) (by decide +kernel)) rfl) (fun h => by cases h) (fun _ => atom rfl _ rfl)
      | int x1 => exact b_if (T := fun b => b = false) (t_tru (e_isi (tc := tC .non) (e_var rfl) rfl (b := false) (by decide +kernel)) rfl) (fun h => by cases h) (fun _ => atom rfl _ rfl)
      | bool b => cases hg1
      | list xs => cases hg1
      | dict xs => cases hg1
      | tuple xs =>
        refine b_if (T := fun b => b = true) (t_tru (e_isi (tc := tC .non) (e_var rfl) rfl (b := true) (by decide +kernel)) rfl) (fun _ => ?_) (fun h => by cases h)
        have hgx : gdAll xs = true := hg1
        have hrl := hw1.len
        have htx : (txt (.tuple xs)).length = (txtAll xs).length + 2 := by rw [txt]; simp
        refine q_app (d := .str "(") rfl e_str hpl ?_
        refine q_app (d := .tuple [.bool false, .str ")"]) rfl (e_tup (a_cons e_bl (a_cons e_str a_nil)) rfl) (by have := sl_big; omega) ?_
        refine b_forRev (C := C) (ds := xs) (e_var rfl) (fun k ρ => ∃ (W : List PyData) (m : Nat) (zz : Kd), ρ = [.dat d, .own lp (pz.map .str ++ [.str "("]), .own lw W, .dat (.bool true), .dat (.tuple xs), zz] ∧ Wt W (txtAll (xs.drop (xs.length - k)) ++ (41 :: t1)) m ∧ m = m1 + 1 + 2 * (txtAll (xs.drop (xs.length - k))).length - k ∧ k ≤ (txtAll (xs.drop (xs.length - k))).length) ?_ ?_ ?_
        · refine ⟨_, m1 + 1, z, rfl, ?_, ?_, by omega⟩
          · have := Wt.pc (z := ")") (by rw [par2]; simp) hw1
            rw [par2] at this
            simpa [txtAll] using this
          · simp [txtAll]
        · rintro v d' k a _ hk ha ⟨W, m, zz, rfl, hw, hm2, hk2⟩
          have hda : xs.drop (xs.length - (k + 1)) = a :: xs.drop (xs.length - k) := by
            have e1 : xs.length - (k + 1) = xs.length - 1 - k := by omega
            have e2 : xs.length - k = xs.length - 1 - k + 1 := by omega
            rw [e1, e2, List.drop_eq_getElem_cons (by omega)]
            congr 1
            exact (List.getElem?_eq_some_iff.mp ha).2
          have hsub : (txtAll (xs.drop (xs.length - k))).length ≤ 100000 := by
            have e := txtAll_app (xs.take (xs.length - k)) (xs.drop (xs.length - k))
            rw [List.take_append_drop] at e
            have e2 := congrArg List.length e
            rw [List.length_append] at e2
            omega
          have hwl := hw.len
          refine q_app (d := .tuple [.bool false, .str ","]) rfl (e_tup (a_cons e_bl (a_cons e_str a_nil)) rfl) (by have := sl_big; omega) ?_
          refine b_app (d := .tuple [.bool true, a]) rfl (e_tup (a_cons e_bl (a_cons (e_var rfl) a_nil)) rfl) (by have := sl_big; rw [List.length_append, List.length_singleton]; omega) ?_
          refine ⟨_, m + 1 + 2 * (txt a).length, _, rfl, ?_, ?_⟩
          · have w1 := Wt.pc (z := ",") (by rw [com1]; simp) hw
            have w2 := Wt.val (gdAll_get hgx ha) w1
            rw [com1] at w2
            rw [hda, txtAll]
            simpa using w2
          · rw [hda, txtAll, List.length_append, List.length_cons]
            have := txt_pos a
            constructor <;> omega
        · rintro _ ⟨W, m, zz, rfl, hw, hm2, hk2⟩
          rw [Nat.sub_self, List.drop_zero] at hw hm2 hk2
          refine ⟨m, by omega, pz ++ [("(" : Str)], W, txtAll xs ++ (41 :: t1), .dat (.bool true), .dat (.tuple xs), zz, ?_, hw, ?_, ?_, by omega⟩
          · rw [List.map_append]
            rfl
          · rw [← ht, fl_snoc, par1, txt]
            simp
          · rw [fl_snoc, List.length_append, List.length_append, List.length_singleton, par1]
            show _ ≤ _ + 1
            omega
theorem go_told (h : sp_told K vs H Q E) : t_told K { nx := fun _ H' => Q .non H', rt := Q } (L2.start ["value"] vs) H := by
  refine sp_body ?_ h
  rintro H E ks S Z ⟨d, rfl, hg, hl, rfl, rfl⟩ n _
  change BS ⟨K, noF, noJ, H, false, [], E, noZ⟩ _ [.dat d] _
  exact b_ret (e_callP (C := ⟨K, noF, noJ, H, false, [], E, noZ⟩) (ks' := [.dat d]) (a_cons (e_var rfl) a_nil) (.cons (.dat fun h => by cases h) .nil) ⟨d, rfl, hg, hl, rfl, rfl⟩ fun k h => h) rfl rfl
end
end Mh
namespace Mh
open PySem PySem.Spec PyProof.Rows L2 TL
/-! ### what is walked is not known beforehand -/
def EIS (C : Ct) (wi : TI) (ρ : List Kd) (P : List PyData → Prop) : Prop :=
  ∀ (σ : L2.St) (H : Hp), Rep C σ H ρ → ∀ W : It → Hp → Prop, (∀ ds J H', P ds → R C H H' → ItY C ρ H' J ds → W J H') → wi σ H W
section
variable {C : Ct} {σ : L2.St} {H H' H1 H2 Hs : Hp} {ρ : List Kd} {v : V} {k x y z : Kd} {l : Addr} {d e : PyData} {ds es : List PyData} {ta tb te : TE} {tt : TT} {t u : TS} {i j : Nat} {S S1 S2 : Kd → Prop} {P P' : Po}
theorem e_lcS {wi : TI} {g : TG} {js : List Nat} {P : List PyData → Prop} (hw : EIS C wi ρ P) (h : ∀ ds (wi' : TI), P ds → EI C wi' ρ ds → EB C (tLc wi' g tt te js) ρ S) : EB C (tLc wi g tt te js) ρ S := fun σ H r Q q => hw σ H r _ fun ds J H1 p r1 y =>
  h ds (fun _ H' W => H' = H1 → W J H1) p (fun σ' H' r' W q' e => by
    subst e
    exact q' J H' (R.refl r'.j) y) σ H1 (r.up r1) Q (fun k v H' s r2 o => q k v H' s (r1.trans r2) (o.back r.ok r1)) rfl
theorem i_rngS {P : List PyData → Prop} (h : EB C te ρ S) (s : ∀ k, S k → ∃ m : Int, k = .dat (.int m) ∧ -(2 ^ 62) ≤ m ∧ m < 2 ^ 62 ∧ P (intsL 0 m.toNat)) : EIS C (iRng1 (tCons te tNil)) ρ P := fun σ H r W q => h σ H r _ fun k v H1 s1 r1 o1 => by
  obtain ⟨m, rfl, m0, m1, p⟩ := s k s1
  obtain rfl := dp_int o1
  exact ⟨m, rfl, m0, m1, q _ _ H1 p r1 ity_r⟩
theorem b_forS {M : Int → Prop} (h : EB C te ρ S) (s : ∀ k, S k → ∃ m : Int, k = .dat (.int m) ∧ -(2 ^ 62) ≤ m ∧ m < 2 ^ 62 ∧ M m)
    (hb : ∀ (m : Int) (wi' : TI), M m → (∀ (σ : L2.St) (H : Hp), Rep C σ H ρ → ∀ W : It → Hp → Prop, (∀ H', R C H H' → W (Itr 0 m.toNat) H') → wi' σ H W) → BS C (tFor wi' (gName j) t) ρ P) : BS C (tFor (iRng1 (tCons te tNil)) (gName j) t) ρ P := fun σ H r D pd => h σ H r _ fun k v H1 s1 r1 o1 => by
  obtain ⟨m, rfl, m0, m1, p⟩ := s k s1
  obtain rfl := dp_int o1
  refine ⟨m, rfl, m0, m1, ?_⟩
  exact hb m (fun _ H' W => H' = H1 → W (Itr 0 m.toNat) H1) p (fun σ' H' r' W q e => by
    subst e
    exact q H' (R.refl r'.j)) σ H1 (r.up r1) D pd rfl
theorem e_joinS {z : Str} (h : E1 C ta ρ (.dat (.str z))) (h2 : EB C tb ρ S1) (s : ∀ k, S1 k → ∃ zs : List Str, seqK k = some (zs.map .str) ∧ (zs.map (·.length)).sum + zs.length * z.length ≤ 16777216 ∧ S (.dat (.str (Txt.join z zs)))) :
    EB C (tM1 (rJoin C.K) ta tb) ρ S := fun σ H rp Q q => h σ H rp _ fun k1 v H1 s1 r1 o1 => by
  subst s1
  obtain rfl := dp_str o1
  refine ⟨⟨z, rfl⟩, h2 σ H1 (rp.up r1) _ fun k2 w H2 s2 r2 o2 => ?_⟩
  obtain ⟨zs, e, hz, s3⟩ := s k2 s2
  obtain ⟨a, rfl, h3⟩ := o2.strs e
  exact ⟨z, a, zs, rfl, rfl, h3, hz, q _ _ _ s3 (r1.trans r2) (.str _)⟩
theorem sum_len (zs : List Str) : (zs.map (·.length)).sum = ((zs.map tl).flatten).length := by
  rw [List.length_flatten, List.map_map]
  congr 1
/-- ''.join -/
theorem e_join0 {zs : List Str} {w : List Nat} (h2 : E1 C tb ρ k) (e : seqK k = some (zs.map .str)) (hw : (zs.map tl).flatten = w) (hz : w.length ≤ 16777216) : E1 C (tM1 (rJoin C.K) (tC (.str "")) tb) ρ (.dat (.str ⟨w.toArray⟩)) :=
  (e_join (zs := zs) e_str h2 e (by rw [sum_len, hw, show (("" : Str)).length = 0 from rfl]; omega)).is (by
    refine congrArg (fun z => Kd.dat (PyData.str z)) (ext_tl ?_)
    rw [tl_join0, hw])
end
end Mh
namespace Mh
open PySem PySem.Spec PyProof.Rows L2 TL
/-! ### value_of, of a text that reads -/
def A_strat : At := fun ks S Z => ∃ (z : Str) (p : Nat) (w r : List Nat), ks = [.dat (.str z), .dat (.int p)] ∧ (tl z).drop p = w ++ 34 :: r ∧ w.all ltr = true ∧ z.length ≤ sizeLine ∧ S = (fun k => k = .dat (.tuple [.str ⟨w.toArray⟩, .int ((p + w.length + 1 : Nat) : Int)])) ∧ Z = noZ
def sp_string_at (K : PySem.W.Frag) : Sp := SpP K A_strat
def A_numat : At := fun ks S Z => ∃ (z : Str) (p n : Nat) (r : List Nat), ks = [.dat (.str z), .dat (.int p)] ∧ (tl z).drop p = numL n ++ r ∧ n < 10 ^ 40 ∧ (∀ c, r.head? = some c → fig c = false) ∧ z.length ≤ sizeLine ∧ S = (fun k => k = .dat (.tuple [.int n, .int ((p + (numL n).length : Nat) : Int)])) ∧ Z = noZ
def sp_number_at (K : PySem.W.Frag) : Sp := SpP K A_numat
def A_atomat : At := fun ks S Z => ∃ (z : Str) (p : Nat) (v : PyData) (r : List Nat), ks = [.dat (.str z), .dat (.int p)] ∧ Atm ((tl z).drop p) v r ∧ z.length ≤ sizeLine ∧ S = (fun k => k = .dat (.tuple [v, .int ((z.length - r.length : Nat) : Int)])) ∧ Z = noZ
def sp_atom_at (K : PySem.W.Frag) : Sp := SpP K A_atomat
def A_val : At := fun ks S Z => ∃ (z : Str) (d : PyData), ks = [.dat (.str z)] ∧ Par [] (tl z) d ∧ z.length < sizeLine ∧ S = (fun k => k = .dat d) ∧ Z = noZ
def sp_value_of (K : PySem.W.Frag) : Sp := SpP K A_val
def sp_untold (K : PySem.W.Frag) : Sp := SpP K A_val
def t_string_at (K : PySem.W.Frag) : TS := (tSeq (tAsg (tVar 1) (gName 2))
  (tSeq (tWhile (tTru K (tCall (sp_is_letter K) [] E0 (tCons (tSl (rSlP K) (tVar 0) (tPart (tVar 2)) (tPart (tOp (rAddP K) (tVar 2) (tC (.int 1))))) tNil))) (tAug 2 (tC (.int 1)) (ipI fun i j => i + j)))
  (tSeq (tIfS (tTest (tOp (rNeP K) (tSl (rSlP K) (tVar 0) (tPart (tVar 2)) (tPart (tOp (rAddP K) (tVar 2) (tC (.int 1))))) (tC (.str "\"")))) tNever tNext)
  (tRet (tTup (tCons (tSl (rSlP K) (tVar 0) (tPart (tVar 1)) (tPart (tVar 2))) (tCons (tOp (rAddP K) (tVar 2) (tC (.int 1))) tNil)))))))
def t_number_at (K : PySem.W.Frag) : TS := (tSeq (tAsg (tCall (sp_figures_end K) [] E0 (tCons (tVar 0) (tCons (tVar 1) tNil))) (gName 2))
  (tSeq (tAsg (tCall (sp_number_of K) [] E0 (tCons (tSl (rSlP K) (tVar 0) (tPart (tVar 1)) (tPart (tVar 2))) (tCons (tC (.int 40)) tNil))) (gName 3))
  (tSeq (tIfS (tTest (tOp rIsN (tVar 3) (tC .non))) tNever tNext)
  (tRet (tTup (tCons (tVar 3) (tCons (tVar 2) tNil)))))))
def t_atom_at (K : PySem.W.Frag) : TS := (tSeq (tAsg (tSl (rSlP K) (tVar 0) (tPart (tVar 1)) (tPart (tOp (rAddP K) (tVar 1) (tC (.int 1))))) (gName 2))
  (tSeq (tIfS (tTest (tOp (rEqP K) (tVar 2) (tC (.str "-")))) (tRet (tTup (tCons (tC .non) (tCons (tOp (rAddP K) (tVar 1) (tC (.int 1))) tNil)))) tNext)
  (tSeq (tIfS (tTest (tOp (rEqP K) (tVar 2) (tC (.str "\"")))) (tRet (tCall (sp_string_at K) [] E0 (tCons (tVar 0) (tCons (tOp (rAddP K) (tVar 1) (tC (.int 1))) tNil)))) tNext)
  (tSeq (tIfS (tTru K (tCall (sp_is_figure K) [] E0 (tCons (tVar 2) tNil))) (tRet (tCall (sp_number_at K) [] E0 (tCons (tVar 0) (tCons (tVar 1) tNil)))) tNext)
  tNever))))
def t_value_of (K : PySem.W.Frag) : TS := (tSeq (tAsg (tLst tNil) (gName 1))
  (tSeq (tAsg (tC (.int 0)) (gName 2))
  (tSeq (tWhile (tB (tC (.bl true))) (tSeq (tAsg (tSl (rSlP K) (tVar 0) (tPart (tVar 2)) (tPart (tOp (rAddP K) (tVar 2) (tC (.int 1))))) (gName 3))
  (tSeq (tIfS (tTest (tOp (rEqP K) (tVar 3) (tC (.str "(")))) (tSeq (tIfS (tTest (tOp (rEqP K) (tCB (rLenP K) (tCons (tVar 1) tNil)) (tC (.int 60)))) tNever tNext)
  (tSeq (tDrop (tBM K "list" rAppend (tVar 1) (tCons (tLst tNil) tNil)))
  (tSeq (tAug 2 (tC (.int 1)) (ipI fun i j => i + j))
  tCont))) tNext)
  (tSeq (tIfS (tAnd (tTest (tOp (rEqP K) (tVar 3) (tC (.str ")")))) (tTru K (tVar 1))) (tSeq (tAsg (tCB (rTupP K) (tCons (tBM0 K "list" rPop (tVar 1)) tNil)) (gName 4))
  (tAug 2 (tC (.int 1)) (ipI fun i j => i + j))) (tAsg (tCall (sp_atom_at K) [] E0 (tCons (tVar 0) (tCons (tVar 2) tNil))) (gTup K 2 (gCons (gName 4) (gCons (gName 2) gNil)))))
  (tSeq (tIfS (tNot (tTru K (tVar 1))) tBreak tNext)
  (tSeq (tIfS (tTest (tOp (rNeP K) (tSl (rSlP K) (tVar 0) (tPart (tVar 2)) (tPart (tOp (rAddP K) (tVar 2) (tC (.int 1))))) (tC (.str ",")))) tNever tNext)
  (tSeq (tDrop (tBM K "list" rAppend (tOp (rIx K) (tVar 1) (tUn rNegI (tC (.int 1)))) (tCons (tVar 4) tNil)))
  (tAug 2 (tC (.int 1)) (ipI fun i j => i + j)))))))))
  (tSeq (tIfS (tTest (tOp (rNeP K) (tVar 2) (tCB (rLenP K) (tCons (tVar 0) tNil)))) tNever tNext)
  (tRet (tVar 4))))))
def t_untold (K : PySem.W.Frag) : TS := (tRet (tCall (sp_value_of K) [] E0 (tCons (tVar 0) tNil)))
theorem tw_stop {p : Nat → Bool} : ∀ {w : List Nat} {c : Nat} {r : List Nat}, w.all p = true → p c = false → (w ++ c :: r).takeWhile p = w
  | [], c, r, _, h => by simp [List.takeWhile_cons, h]
  | a :: w, c, r, h, h2 => by
    simp at h
    simp [List.takeWhile_cons, h.1]
    exact tw_stop (by simpa using h.2) h2
theorem tw_stop2 {p : Nat → Bool} {w r : List Nat} (h : w.all p = true) (h2 : ∀ c, r.head? = some c → p c = false) : (w ++ r).takeWhile p = w := by
  cases r with
  | nil =>
    rw [List.append_nil]
    have := tw_all (p := p) w
    rw [h] at this
    have e := of_decide_eq_true this
    have q := take_tw (p := p) w
    rw [e, List.take_length] at q
    exact q.symm
  | cons c r => exact tw_stop h (h2 c rfl)
theorem sgeq (o : Option Nat) {x : Str} {d : Nat} (hx : tl x = [d]) : decide (sg o = x) = decide (o = some d) := by
  refine decide_eq_decide.mpr ⟨fun h => ?_, fun h => ?_⟩
  · rw [← h] at hx
    cases o with
    | none => cases hx
    | some c =>
      have : [c] = [d] := hx
      simp at this
      rw [this]
  · subst h
    exact ext_tl hx.symm
theorem minus : tl ("-" : Str) = [45] := by decide +kernel
theorem at_of_drop {z : Str} {p c : Nat} {r : List Nat} (h : (tl z).drop p = c :: r) : (tl z)[p]? = some c ∧ p < z.length ∧ (tl z).drop (p + 1) = r := by
  have hl : p < (tl z).length := by
    refine Nat.lt_of_not_le fun hn => ?_
    rw [List.drop_eq_nil_of_le hn] at h
    cases h
  have e := List.drop_eq_getElem_cons hl
  rw [h] at e
  injection e with e1 e2
  exact ⟨by rw [List.getElem?_eq_getElem hl, e1], by rw [len_tl]; exact hl, e2.symm⟩
theorem len_drop {z : Str} {p : Nat} {w r : List Nat} (h : (tl z).drop p = w ++ r) (hp : p ≤ z.length) : p + w.length + r.length = z.length := by
  have := congrArg List.length h
  rw [List.length_drop, List.length_append, ← len_tl] at this
  omega
theorem le_of_drop {z : Str} {p c : Nat} {w r : List Nat} (h : (tl z).drop p = w ++ c :: r) : p ≤ z.length := by
  refine Nat.le_of_not_le fun hn => ?_
  rw [List.drop_eq_nil_of_le (by rw [← len_tl]; exact hn)] at h
  simp at h
theorem numL_head : ∀ n : Nat, arf (numL n) = true := by
  intro n
  have all : (numL n).all fig = true := List.all_eq_true.mpr fun c hc => by
    have := numL_digits n c hc
    simp [fig]
    exact this
  have hd : n = 0 ∨ ∃ c r, numL n = c :: r ∧ c ≠ 48 := by
    induction n using Nat.strongRecOn with
    | _ n ih =>
      by_cases h : n < 10
      · rw [numL_lt h]
        by_cases h0 : n = 0
        · exact .inl h0
        · exact .inr ⟨48 + n, [], rfl, by omega⟩
      · rcases ih (n / 10) (by omega) (List.all_eq_true.mpr fun c hc => by
          have := numL_digits (n / 10) c hc
          simp [fig]
          exact this) with h0 | ⟨c, r, e, hc⟩
        · omega
        · refine .inr ⟨c, r ++ [48 + n % 10], ?_, hc⟩
          rw [numL_step (by omega), e]
          rfl
  unfold arf
  rw [all, Bool.true_and]
  rcases hd with rfl | ⟨c, r, e, hc⟩
  · rw [numL_lt (by decide)]
    rfl
  · rw [e]
    simp [hc]
section
variable {K : PySem.W.Frag} {vs : List V} {H : Hp} {Q : VK} {E : XK}
theorem go_string_at (h : sp_string_at K vs H Q E) : t_string_at K { nx := fun _ H' => Q .non H', rt := Q } (L2.start ["text", "at", "end"] vs) H := by
  refine sp_body ?_ h
  rintro H E ks S Z ⟨z, p, w, r, rfl, hd, hw, hz, rfl, rfl⟩ n _
  change BS ⟨K, noF, noJ, H, false, [], E, noZ⟩ _ [.dat (.str z), .dat (.int p), .un] _
  have hp := le_of_drop hd
  have hlen := len_drop hd hp
  rw [List.length_cons] at hlen
  have htw : tw ltr z p = w := by
    unfold tw
    rw [hd]
    exact tw_stop hw rfl
  have hd2 : (tl z).drop (p + w.length) = 34 :: r := by
    rw [← List.drop_drop, hd, List.drop_left]
  obtain ⟨h1, h2, h3⟩ := at_of_drop hd2
  refine b_signs (C := ⟨K, noF, noJ, H, false, [], E, noZ⟩) rfl hz hp ?_
  rw [htw]
  refine q_when (T := fun b => b = false) (t_test ((e_op1 (C := ⟨K, noF, noJ, H, false, [], E, noZ⟩) (e_sign (p := p + w.length) rfl rfl hz) e_str k_ne_s).is (by rw [sgeq _ quo, h1]; rfl))) (fun h => by cases h) (fun _ => ?_)
  refine b_ret ((e_tup (C := ⟨K, noF, noJ, H, false, [], E, noZ⟩) (a_cons (e_slS (C := ⟨K, noF, noJ, H, false, [], E, noZ⟩) (e_var rfl) (o_some (e_var rfl)) (o_some (e_var rfl)) hz) (a_cons (e_op1 (C := ⟨K, noF, noJ, H, false, [], E, noZ⟩) (e_var rfl) e_int k_add_i) a_nil)) rfl).is ?_) rfl rfl
  rw [cut_sub (Nat.le_add_right _ _) (by omega), hd, Nat.add_sub_cancel_left, List.take_left]
  rfl
theorem go_number_at (h : sp_number_at K vs H Q E) : t_number_at K { nx := fun _ H' => Q .non H', rt := Q } (L2.start ["text", "at", "end", "number"] vs) H := by
  refine sp_body ?_ h
  rintro H E ks S Z ⟨z, p, m, r, rfl, hd, hm, hr, hz, rfl, rfl⟩ n _
  change BS ⟨K, noF, noJ, H, false, [], E, noZ⟩ _ [.dat (.str z), .dat (.int p), .un, .un] _
  obtain ⟨c, cs, hc⟩ := List.exists_cons_of_ne_nil (numL_ne m)
  have hp : p ≤ z.length := by
    refine Nat.le_of_not_le fun hn => ?_
    rw [List.drop_eq_nil_of_le (by rw [← len_tl]; exact hn), hc] at hd
    cases hd
  have hlen := len_drop hd hp
  have hfa : (numL m).all fig = true := List.all_eq_true.mpr fun c hc => by
    have := numL_digits m c hc
    simp [fig]
    exact this
  have htw : tw fig z p = numL m := by
    unfold tw
    rw [hd]
    exact tw_stop2 hfa hr
  refine q_asg (C := ⟨K, noF, noJ, H, false, [], E, noZ⟩) (e_callP (C := ⟨K, noF, noJ, H, false, [], E, noZ⟩) (ks' := [.dat (.str z), .dat (.int p)]) (a_cons (e_var rfl) (a_cons (e_var rfl) a_nil)) (.cons (.dat fun h => by cases h) (.cons (.dat fun h => by cases h) .nil)) ⟨z, p, rfl, hp, hz, rfl, rfl⟩ fun k h => h) ?_
  rw [htw]
  have cut : cutS z (some (p : Int)) (some ((p + (numL m).length : Nat) : Int)) = ⟨(numL m).toArray⟩ := by
    rw [cut_sub (Nat.le_add_right _ _) (by omega), hd, Nat.add_sub_cancel_left, List.take_left]
  have hcl : (⟨(numL m).toArray⟩ : Str).length = (numL m).length := by rw [len_tl]
  have hnl : (numL m).length ≤ 40 := numL_len (by decide) hm
  have nv : numV ⟨(numL m).toArray⟩ 40 = .int m := by
    unfold numV
    rw [hcl, decide_eq_false (by omega)]
    show (if (false || !arf (numL m)) then PyData.none else .int ((NumText.digitsVal (numL m) : Nat) : Int)) = _
    rw [numL_head, numL_val]
    rfl
  have e2 : E1 ⟨K, noF, noJ, H, false, [], E, noZ⟩ (tCall (sp_number_of K) [] E0 (tCons (tSl (rSlP K) (tVar 0) (tPart (tVar 1)) (tPart (tVar 2))) (tCons (tC (.int 40)) tNil))) [.dat (.str z), .dat (.int p), .dat (.int ((p + (numL m).length : Nat) : Int)), .un] (.dat (.int m)) := by
    have e1 := e_slS (C := ⟨K, noF, noJ, H, false, [], E, noZ⟩) (ρ := [.dat (.str z), .dat (.int p), .dat (.int ((p + (numL m).length : Nat) : Int)), .un]) (z := z) (e_var (i := 0) rfl) (o_some (i := p) (e_var (i := 1) rfl)) (o_some (i := ((p + (numL m).length : Nat) : Int)) (e_var (i := 2) rfl)) hz
    rw [cut] at e1
    refine (e_callP (C := ⟨K, noF, noJ, H, false, [], E, noZ⟩) (S := fun k => k = .dat (numV ⟨(numL m).toArray⟩ 40)) (ks' := [.dat (.str ⟨(numL m).toArray⟩), .dat (.int 40)]) (a_cons e1 (a_cons e_int a_nil)) (.cons (.dat fun h => by cases h) (.cons (.dat fun h => by cases h) .nil)) ⟨_, 40, rfl, ?_, .inl (by decide), rfl, rfl⟩ fun k h => h).imp ?_
    · intro k hk
      rw [hk, nv]
    · rw [hcl]
      exact Nat.le_trans hnl (by decide)
  refine q_asg e2 ?_
  refine q_when (T := fun b => b = false) (t_test (e_op1 (C := ⟨K, noF, noJ, H, false, [], E, noZ⟩) (e_var rfl) e_non k_isN)) (fun h => by cases h) (fun _ => ?_)
  exact b_ret (e_tup (C := ⟨K, noF, noJ, H, false, [], E, noZ⟩) (a_cons (e_var rfl) (a_cons (e_var rfl) a_nil)) rfl) rfl rfl
theorem atm_nl {cs r : List Nat} {v : PyData} (h : Atm cs v r) : nl v = true := by cases h <;> rfl
theorem go_atom_at (h : sp_atom_at K vs H Q E) : t_atom_at K { nx := fun _ H' => Q .non H', rt := Q } (L2.start ["text", "at", "sign"] vs) H := by
  refine sp_body ?_ h
  rintro H E ks S Z ⟨z, p, v, r, rfl, ha, hz, rfl, rfl⟩ n _
  change BS ⟨K, noF, noJ, H, false, [], E, noZ⟩ _ [.dat (.str z), .dat (.int p), .un] _
  refine q_asg (e_sign (C := ⟨K, noF, noJ, H, false, [], E, noZ⟩) (p := p) rfl rfl hz) ?_
  have tq : ∀ (x : Str) (d : Nat), tl x = [d] → T1 ⟨K, noF, noJ, H, false, [], E, noZ⟩ (tTest (tOp (rEqP K) (tVar 2) (tC (.str x)))) [.dat (.str z), .dat (.int p), .dat (.str (sg (tl z)[p]?))] (decide ((tl z)[p]? = some d)) := fun x d hx =>
    t_test ((e_op1 (C := ⟨K, noF, noJ, H, false, [], E, noZ⟩) (e_var rfl) e_str k_eq_s).is (by rw [sgeq _ hx]))
  generalize hcs : (tl z).drop p = cs at ha
  cases ha with
  | non =>
    obtain ⟨h1, h2, h3⟩ := at_of_drop hcs
    refine q_when (T := fun b => b = true) ((tq "-" 45 minus).is (by rw [h1]; rfl)) (fun _ => ?_) (fun h => by cases h)
    have hlen := len_drop (w := [45]) (r := r) hcs (by omega)
    simp at hlen
    refine b_ret ((e_tup (C := ⟨K, noF, noJ, H, false, [], E, noZ⟩) (a_cons e_non (a_cons (e_op1 (C := ⟨K, noF, noJ, H, false, [], E, noZ⟩) (e_var rfl) e_int k_add_i) a_nil)) rfl).is ?_) rfl rfl
    rw [show ((z.length - r.length : Nat) : Int) = (p : Int) + 1 by omega]
  | @str w _ hw =>
    obtain ⟨h1, h2, h3⟩ := at_of_drop hcs
    refine q_when (T := fun b => b = false) ((tq "-" 45 minus).is (by rw [h1]; rfl)) (fun h => by cases h) (fun _ => ?_)
    refine q_when (T := fun b => b = true) ((tq "\"" 34 quo).is (by rw [h1]; rfl)) (fun _ => ?_) (fun h => by cases h)
    have hlen := len_drop (w := 34 :: w ++ [34]) (r := r) (by rw [hcs]; simp) (by omega)
    simp at hlen
    refine b_ret ((e_callP (C := ⟨K, noF, noJ, H, false, [], E, noZ⟩) (ks' := [.dat (.str z), .dat (.int ((p + 1 : Nat) : Int))]) (S := fun k => k = .dat (.tuple [.str ⟨w.toArray⟩, .int ((p + 1 + w.length + 1 : Nat) : Int)])) (a_cons (e_var rfl) (a_cons (e_op1 (C := ⟨K, noF, noJ, H, false, [], E, noZ⟩) (e_var rfl) e_int k_add_i) a_nil)) (.cons (.dat fun h => by cases h) (.cons (.dat fun h => by cases h) .nil)) ⟨z, p + 1, w, r, rfl, h3, hw, hz, rfl, rfl⟩ fun k h => h).imp fun k hk => ?_) rfl rfl
    rw [hk, show p + 1 + w.length + 1 = z.length - r.length by omega]
  | @num m _ hm hr =>
    obtain ⟨c, cs, hc⟩ := List.exists_cons_of_ne_nil (numL_ne m)
    rw [hc] at hcs
    obtain ⟨h1, h2, h3⟩ := at_of_drop hcs
    have hfc : fig c = true := by
      have := numL_digits m c (by rw [hc]; exact List.mem_cons_self)
      simp [fig]
      exact this
    have hf := hfc
    simp [fig] at hf
    refine q_when (T := fun b => b = false) ((tq "-" 45 minus).is (by rw [h1]; exact decide_eq_false (by simp; omega))) (fun h => by cases h) (fun _ => ?_)
    refine q_when (T := fun b => b = false) ((tq "\"" 34 quo).is (by rw [h1]; exact decide_eq_false (by simp; omega))) (fun h => by cases h) (fun _ => ?_)
    refine q_when (T := fun b => b = true) (t_tru (C := ⟨K, noF, noJ, H, false, [], E, noZ⟩) (k := .dat (.bool (((tl z)[p]?).any fig))) (e_callP (C := ⟨K, noF, noJ, H, false, [], E, noZ⟩) (ks' := [.dat (.str (sg (tl z)[p]?))]) (a_cons (e_var rfl) a_nil) (.cons (.dat fun h => by cases h) .nil) ⟨_, rfl, rfl, rfl⟩ fun k h => h) (by rw [h1]; exact congrArg some hfc)) (fun _ => ?_) (fun h => by cases h)
    rw [← hc] at hcs
    have hlen := len_drop hcs (by omega)
    refine b_ret ((e_callP (C := ⟨K, noF, noJ, H, false, [], E, noZ⟩) (ks' := [.dat (.str z), .dat (.int p)]) (S := fun k => k = .dat (.tuple [.int m, .int ((p + (numL m).length : Nat) : Int)])) (a_cons (e_var rfl) (a_cons (e_var rfl) a_nil)) (.cons (.dat fun h => by cases h) (.cons (.dat fun h => by cases h) .nil)) ⟨z, p, m, r, rfl, hcs, hm, hr, hz, rfl, rfl⟩ fun k h => h).imp fun k hk => ?_) rfl rfl
    rw [hk, show p + (numL m).length = z.length - r.length by omega]
theorem nlAll_app (xs ys : List PyData) : nl.nlAll (xs ++ ys) = (nl.nlAll xs && nl.nlAll ys) := by
  induction xs with
  | nil => rfl
  | cons x xs ih => simp [nl.nlAll, ih, Bool.and_assoc]
theorem hn1 {d : PyData} (h : nl d = true) : nl.nlAll [d] = true := by simpa [nl.nlAll] using h
theorem atm_suf {cs r : List Nat} {v : PyData} (h : Atm cs v r) : ∃ c w, cs = c :: w ++ r ∧ c ≠ 40 ∧ c ≠ 41 := by
  cases h with
  | non => exact ⟨45, [], rfl, by decide, by decide⟩
  | @str w _ _ => exact ⟨34, w ++ [34], by simp, by decide, by decide⟩
  | @num n _ _ _ =>
    obtain ⟨c, w, e⟩ := List.exists_cons_of_ne_nil (numL_ne n)
    have := numL_digits n c (by rw [e]; exact List.mem_cons_self)
    exact ⟨c, w, by rw [e], by omega, by omega⟩
/-! ### the loop of value_of, by hand: rows is a list of lists -/
inductive Rows (K : PySem.W.Frag) (H : Hp) : List Addr → List (List PyData) → Prop where
  | nil : Rows K H [] []
  | cons {l : Addr} {vs : List V} {ds : List PyData} {ls : List Addr} {st : List (List PyData)} : H l = some (.lst vs) → DpAll K H vs ds → nl.nlAll ds = true → Rows K H ls st → Rows K H (l :: ls) (ds :: st)
theorem Rows.mv {H H' : Hp} {ls : List Addr} {st : List (List PyData)} (h : Rows K H ls st) : (∀ l ∈ ls, H' l = H l) → Tx H H' → Rows K H' ls st := by
  induction h with
  | nil => exact fun _ _ => .nil
  | cons h1 h2 h3 _ ih => exact fun e t => .cons ((e _ List.mem_cons_self).trans h1) (DpAll.tx t h3 h2) h3 (ih (fun l hl => e l (List.mem_cons_of_mem _ hl)) t)
theorem Rows.lst {H : Hp} {ls : List Addr} {st : List (List PyData)} (h : Rows K H ls st) : ∀ l ∈ ls, ∃ vs, H l = some (.lst vs) := by
  induction h with
  | nil => intro l hl; cases hl
  | cons h1 _ _ _ ih =>
    intro l hl
    rcases List.mem_cons.mp hl with e | hl
    · exact ⟨_, e ▸ h1⟩
    · exact ih l hl
structure Stk (K : PySem.W.Frag) (H0 : Hp) (r : Addr) (ls : List Addr) (st : List (List PyData)) (H : Hp) : Prop where
  top : H r = some (.lst (ls.reverse.map V.ref))
  nd : (r :: ls).Nodup
  fr : ∀ a ∈ r :: ls, H0 a = none
  old : ∀ a o, H0 a = some o → H a = some o
  rows : Rows K H ls st
theorem Stk.len {H0 H : Hp} {r : Addr} {ls : List Addr} {st : List (List PyData)} (h : Stk K H0 r ls st H) : ls.length = st.length := by
  have h1 := h.rows
  clear h
  induction h1 with
  | nil => rfl
  | cons _ _ _ _ ih => simp [ih]
theorem tx_upd_new {H : Hp} {p : Addr} {o : HO} (hp : H p = none) : Tx H (upd H p o) := fun a u h _ => by rw [upd_ne (ne_of_none h hp)]; exact h
theorem tx_upd_lst {H : Hp} {p : Addr} {o : HO} {vs : List V} (hp : H p = some (.lst vs)) : Tx H (upd H p o) := fun a u h n => by
  have na : a ≠ p := fun e => by
    subst e
    rw [hp] at h
    cases h
    exact n trivial
  rw [upd_ne na]
  exact h
/-- rows as a world that stands still -/
abbrev CtS (K : PySem.W.Frag) (r : Addr) (ls : List Addr) (H : Hp) : Ct := ⟨K, fun a => a ∈ r :: ls, fun H' => ∀ a ∈ r :: ls, H' a = H a, H, false, [], fun _ _ _ => False, noZ⟩
theorem Stk.ok {H0 H : Hp} {r : Addr} {ls : List Addr} {st : List (List PyData)} (h : Stk K H0 r ls st H) : (CtS K r ls H).Ok where
  st := fun H1 H2 j e a ha => (e a ha).trans (j a ha)
  ls := fun H1 a j ha => by
    rw [j a ha]
    rcases List.mem_cons.mp ha with e | ha
    · exact ⟨_, e ▸ h.top⟩
    · exact h.rows.lst a ha
  j0 := fun _ _ => rfl
  hE := fun _ _ _ _ _ z => z.elim
theorem Stk.tx {H0 H H' : Hp} {r : Addr} {ls : List Addr} {st : List (List PyData)} (h : Stk K H0 r ls st H) (q : R (CtS K r ls H) H H') : Tx H H' := fun a o z n => by
  have nF : a ∉ r :: ls := fun ha => by
    obtain ⟨vs, e⟩ := h.ok.ls H a (fun _ _ => rfl) ha
    rw [e] at z
    cases z
    exact n trivial
  exact q.2 _ _ z nF
theorem Stk.up {H0 H H' : Hp} {r : Addr} {ls : List Addr} {st : List (List PyData)} (h : Stk K H0 r ls st H) (q : R (CtS K r ls H) H H') : Stk K H0 r ls st H' where
  top := (q.1 r List.mem_cons_self).trans h.top
  nd := h.nd
  fr := h.fr
  old := fun a o e => q.2 _ _ (h.old a o e) fun ha => by
    rw [h.fr a ha] at e
    cases e
  rows := h.rows.mv (fun l hl => q.1 l (List.mem_cons_of_mem _ hl)) (h.tx q)
theorem Stk.rep {H0 H : Hp} {r : Addr} {ls : List Addr} {st : List (List PyData)} (h : Stk K H0 r ls st H) {z : Str} {p : Int} {s1 s3 s4 : Option V} : Rep (CtS K r ls H) [some (.str z), s1, some (.int p), s3, s4] H [.dat (.str z), .un, .dat (.int p), .un, .un] := by
  refine ⟨h.ok, fun _ _ => rfl, fun a o e _ => e, rfl, fun i j l ds es e => ?_, fun l o => ?_, fun i k e => ?_, fun p hp => by cases hp⟩
  · match i with
    | 0 => cases e
    | 1 => cases e
    | 2 => cases e
    | 3 => cases e
    | 4 => cases e
    | i + 5 => simp at e
  · obtain ⟨i, ds, e⟩ := o
    match i with
    | 0 => cases e
    | 1 => cases e
    | 2 => cases e
    | 3 => cases e
    | 4 => cases e
    | i + 5 => simp at e
  · match i with
    | 0 =>
      cases e
      exact ⟨_, rfl, .str z⟩
    | 1 => cases e; trivial
    | 2 =>
      cases e
      exact ⟨_, rfl, .int p⟩
    | 3 => cases e; trivial
    | 4 => cases e; trivial
    | i + 5 => simp at e
theorem vl_sign {z : Str} {p : Nat} {σ : L2.St} {H : Hp} (h0 : σ[0]? = some (some (.str z))) (h2 : σ[2]? = some (some (.int (p : Int)))) (hz : z.length ≤ sizeLine) : Vl (tSl (rSlP K) (tVar 0) (tPart (tVar 2)) (tPart (tOp (rAddP K) (tVar 2) (tC (.int 1))))) σ H (.str (sg (tl z)[p]?)) := fun Q q =>
  vl_var h0 _ (vl_var h2 _ ⟨p, rfl, vl_op (vl_var h2) vl_c o_add _ ⟨_, rfl, .inr (.inr ⟨z, rfl, hz, by rw [cut_sg]; exact q⟩)⟩⟩)
theorem o_eqS {a b : Str} {H : Hp} : ∀ Q : VK, Q (.bl (decide (a = b))) H → rEqP K (.str a) (.str b) H Q := fun Q q => .inl ⟨rfl, by rw [dec_s]; exact q⟩
theorem o_neS {a b : Str} {H : Hp} : ∀ Q : VK, Q (.bl (!decide (a = b))) H → rNeP K (.str a) (.str b) H Q := fun Q q => .inl ⟨rfl, by rw [dec_s]; exact q⟩
theorem o_ne {a b : Int} {H : Hp} : ∀ Q : VK, Q (.bl (!decide (a = b))) H → rNeP K (.int a) (.int b) H Q := fun Q q => .inl ⟨rfl, by rw [dec_i]; exact q⟩
/-- what the loop knows -/
def VI (K : PySem.W.Frag) (H0 : Hp) (z : Str) (res : PyData) (r : Addr) (m : Nat) (σ : L2.St) (H : Hp) : Prop := ∃ (p : Nat) (ls : List Addr) (st : List (List PyData)) (s3 s4 : Option V),
  σ = [some (.str z), some (.ref r), some (.int (p : Int)), s3, s4] ∧ p + m = z.length ∧ Par st ((tl z).drop p) res ∧ Stk K H0 r ls st H ∧ ∀ row ∈ st, row.length ≤ p
def VF (K : PySem.W.Frag) (H0 : Hp) (z : Str) (res : PyData) (σ : L2.St) (H : Hp) : Prop := ∃ (s1 s3 : Option V) (v : V), σ = [some (.str z), s1, some (.int (z.length : Int)), s3, some v] ∧ Dp K H v res ∧ nl res = true ∧ ∀ a o, H0 a = some o → H a = some o
def t_tail (K : PySem.W.Frag) : TS := (tSeq (tIfS (tNot (tTru K (tVar 1))) tBreak tNext)
  (tSeq (tIfS (tTest (tOp (rNeP K) (tSl (rSlP K) (tVar 0) (tPart (tVar 2)) (tPart (tOp (rAddP K) (tVar 2) (tC (.int 1))))) (tC (.str ",")))) tNever tNext)
  (tSeq (tDrop (tBM K "list" rAppend (tOp (rIx K) (tVar 1) (tUn rNegI (tC (.int 1)))) (tCons (tVar 4) tNil)))
  (tAug 2 (tC (.int 1)) (ipI fun i j => i + j)))))
theorem tail_ok {H0 H : Hp} {z : Str} {res d : PyData} {r : Addr} {p m : Nat} {ls : List Addr} {st : List (List PyData)} {s3 : Option V} {v : V} {D : Ends} (hz : z.length < sizeLine) (hp : p ≤ z.length) (hf : Fin_ st d ((tl z).drop p) res) (hs : Stk K H0 r ls st H)
    (hr : ∀ row ∈ st, row.length < p) (hd : Dp K H v d) (hn : nl d = true) (hm : z.length ≤ p + m) (bk : ∀ σ H, VF K H0 z res σ H → D.bk σ H) (nx : ∀ m' σ H, m' ≤ m → VI K H0 z res r m' σ H → D.nx σ H) :
    t_tail K D [some (.str z), some (.ref r), some (.int (p : Int)), s3, some v] H := by
  have tru : TruV K (.ref r) H (!(ls.reverse.map V.ref).isEmpty) := .inl ⟨_, .inl (.inl hs.top), rfl⟩
  refine ⟨_, rfl, _, tru, ?_⟩
  cases hst : st with
  | nil =>
    have hls : ls = [] := List.length_eq_zero_iff.mp (by rw [hs.len, hst]; rfl)
    subst hls hst
    obtain ⟨e1, e2⟩ := hf
    subst e2
    have hpz : p = z.length := by
      have := congrArg List.length e1
      rw [List.length_drop, ← len_tl] at this
      simp at this
      omega
    subst hpz
    exact bk _ _ ⟨_, _, v, rfl, hd, hn, hs.old⟩
  | cons top st' =>
    subst hst
    obtain ⟨r', hr', par⟩ := hf
    obtain ⟨a1, a2, a3⟩ := at_of_drop hr'
    have hrw := hs.rows
    generalize hls : ls = ls0 at hrw
    cases hrw with
    | @cons l vs ds ls' st2 h1 h2 h3 h4 =>
      subst hls
      have ne : (!((l :: ls').reverse.map V.ref).isEmpty) = true := by simp
      rw [ne]
      refine vl_op (vl_sign rfl rfl (Nat.le_of_lt hz)) vl_c o_neS _ ⟨_, rfl, ?_⟩
      rw [sgeq _ com1, a1, decide_eq_true rfl]
      have at1 : atI ((l :: ls').reverse.map V.ref) (-1) = some (.ref l) := by
        rw [List.reverse_cons, List.map_append]
        exact at_last _ _
      refine vl_op (vl_var rfl) (vl_neg vl_c) (o_ix hs.top at1) _ ?_
      refine ⟨.inl ⟨rfl, _, .inl (.inl h1)⟩, v, rfl, l, vs, v, rfl, rfl, h1, ?_, ?_⟩
      · have := hr top List.mem_cons_self
        rw [h2.length]
        omega
      have nd := hs.nd
      rw [List.nodup_cons, List.nodup_cons] at nd
      have hrl : r ≠ l := fun e => nd.1 (e ▸ List.mem_cons_self)
      have tx := tx_upd_lst (o := .lst (vs ++ [v])) h1
      refine ⟨_, rfl, p, 1, rfl, rfl, nx (z.length - (p + 1)) _ _ (by omega) ⟨p + 1, l :: ls', (top ++ [d]) :: st', s3, some v, ?_, by omega, ?_, ⟨?_, hs.nd, hs.fr, ?_, ?_⟩, ?_⟩⟩
      · show [some (V.str z), some (.ref r), some (.int ((p : Int) + 1)), s3, some v] = _
        rw [show (p : Int) + 1 = ((p + 1 : Nat) : Int) by omega]
      · rw [a3]
        exact par
      · rw [upd_ne hrl]
        exact hs.top
      · intro a o e
        rw [upd_ne fun z => by rw [z, hs.fr l (List.mem_cons_of_mem _ List.mem_cons_self)] at e; cases e]
        exact hs.old a o e
      · refine .cons (vs := vs ++ [v]) upd_same ((DpAll.tx tx h3 h2).append (.cons (Dp.tx tx hn hd) .nil)) ?_ (h4.mv (fun l' hl => upd_ne fun z => nd.2.1 (z ▸ hl)) tx)
        rw [nlAll_app, h3, hn1 hn]
        rfl
      · intro row hrow
        rcases List.mem_cons.mp hrow with e | hrow
        · have := hr top List.mem_cons_self
          rw [e, List.length_append, List.length_singleton]
          omega
        · have := hr row (List.mem_cons_of_mem _ hrow)
          omega
theorem par_nl {st : List (List PyData)} {cs : List Nat} {d : PyData} (h : Par st cs d) : (∀ row ∈ st, nl.nlAll row = true) → nl d = true := by
  induction h with
  | op _ _ ih =>
    exact fun q => ih fun row h => by
      rcases List.mem_cons.mp h with e | h
      · rw [e]; rfl
      · exact q row h
  | cl1 => exact fun q => q _ List.mem_cons_self
  | @cl2 top up st r d _ ih =>
    exact fun q => ih fun row h => by
      rcases List.mem_cons.mp h with e | h
      · rw [e, nlAll_app, q up (List.mem_cons_of_mem _ List.mem_cons_self), hn1 (d := .tuple top) (q top List.mem_cons_self)]; rfl
      · exact q row (List.mem_cons_of_mem _ (List.mem_cons_of_mem _ h))
  | at1 a => exact fun _ => atm_nl a
  | @at2 cs r v d top st a _ ih =>
    exact fun q => ih fun row h => by
      rcases List.mem_cons.mp h with e | h
      · rw [e, nlAll_app, q top List.mem_cons_self, hn1 (atm_nl a)]; rfl
      · exact q row (List.mem_cons_of_mem _ h)
theorem dne {a b : Nat} (h : a ≠ b) : decide ((some a : Option Nat) = some b) = false := decide_eq_false fun e => h (Option.some.inj e)
theorem go_value_of (h : sp_value_of K vs H Q E) : t_value_of K { nx := fun _ H' => Q .non H', rt := Q } (L2.start ["text", "rows", "at", "sign", "value"] vs) H := by
  obtain ⟨ks, S, Z, ⟨z, d, rfl, par, hz, rfl, rfl⟩, r0, f⟩ := h
  have hl := r0.len
  match vs, hl with
  | [v0], _ =>
  obtain ⟨v', e1, e2⟩ := r0.sl 0 _ rfl
  have e1 : v0 = v' := by simpa using e1
  subst e1
  obtain rfl := dp_str e2
  have hz' := Nat.le_of_lt hz
  refine ⟨show 0 ≤ sizeLine by decide, fun r hr => ?_⟩
  refine ⟨fun m σ H' => VI K H z d r m σ H', ⟨z.length, 0, [], [], none, none, rfl, by omega, by simpa using par, ⟨upd_same, by simp, fun a ha => ?_, fun a o e => ?_, .nil⟩, by simp⟩, ?_⟩
  · rw [List.mem_singleton.mp ha]
    exact hr
  · rw [upd_ne (ne_of_none e hr)]
    exact e
  rintro m σ H' ⟨p, ls, st, s3, s4, rfl, hm, par, stk, hrow⟩
  refine ⟨true, rfl, br (fun _ => ?_) (fun h => by cases h)⟩
  refine ⟨fun σ' H'' => ∃ m', m' < m ∧ VI K H z d r m' σ' H'', fun _ _ h => h, ?_⟩
  have fin : ∀ σ H1, VF K H z d σ H1 → (tSeq (tIfS (tTest (tOp (rNeP K) (tVar 2) (tCB (rLenP K) (tCons (tVar 0) tNil)))) tNever tNext) (tRet (tVar 4))) { nx := fun _ H' => Q .non H', rt := Q } σ H1 := by
    rintro σ H1 ⟨s1, s3, v, rfl, hv, hn, old⟩
    refine vl_op (vl_var rfl) (z := .bl (!decide ((z.length : Int) = z.length))) (fun Q q => ⟨_, rfl, .str z, z.length, rfl, ⟨hz', rfl⟩, q⟩) o_ne _ ⟨_, rfl, br (fun h => ?_) (fun _ => ?_)⟩
    · simp at h
    · refine ⟨v, rfl, f _ _ _ rfl ⟨⟨trivial, fun a o e _ => old a o e⟩, Dp.tx (fun a o h n => ?_) hn hv⟩⟩
      exact fsh_mk h id fun z => n (by rw [h] at z; exact z.2)
  have lenr : (ls.reverse.map V.ref).length = st.length := by rw [List.length_map, List.length_reverse, stk.len]
  refine vl_sign rfl rfl hz' _ ?_
  have tail : ∀ (q : Nat) (ls : List Addr) (st : List (List PyData)) (s3 : Option V) (v : V) (dv : PyData) (H1 : Hp), p < q → q ≤ z.length → Fin_ st dv ((tl z).drop q) d → Stk K H r ls st H1 → (∀ row ∈ st, row.length < q) → Dp K H1 v dv → nl dv = true →
      t_tail K { nx := fun σ' H'' => ∃ m', m' < m ∧ VI K H z d r m' σ' H'', ct := fun σ' H'' => ∃ m', m' < m ∧ VI K H z d r m' σ' H'', rt := Q, bk := (tSeq (tIfS (tTest (tOp (rNeP K) (tVar 2) (tCB (rLenP K) (tCons (tVar 0) tNil)))) tNever tNext) (tRet (tVar 4))) { nx := fun _ H' => Q .non H', rt := Q } } [some (.str z), some (.ref r), some (.int (q : Int)), s3, some v] H1 :=
    fun q ls st s3 v dv H1 h1 h2 h3 h4 h5 h6 h7 => tail_ok (m := m - 1) hz h2 h3 h4 h5 h6 h7 (by omega) fin fun m' σ H h8 h9 => ⟨m', by omega, h9⟩
  have pne : (tl z).drop p ≠ [] := by
    intro e
    rw [e] at par
    cases par with
    | at1 ha => cases atm_suf ha with | intro c h => obtain ⟨w, e, _⟩ := h; cases e
    | at2 ha _ => cases atm_suf ha with | intro c h => obtain ⟨w, e, _⟩ := h; cases e
  have close : ∀ (top : List PyData) (st' : List (List PyData)), Stk K H r ls (top :: st') H' → (∀ row ∈ top :: st', row.length ≤ p) → Fin_ st' (.tuple top) ((tl z).drop (p + 1)) d → tTru K (tVar 1) [some (.str z), some (.ref r), some (.int (p : Int)), some (.str (sg (tl z)[p]?)), s4] H' fun b H1 => if b = true then
      (tSeq (tAsg (tCB (rTupP K) (tCons (tBM0 K "list" rPop (tVar 1)) tNil)) (gName 4)) (tAug 2 (tC (.int 1)) (ipI fun i j => i + j))) { nx := t_tail K { nx := fun σ' H'' => ∃ m', m' < m ∧ VI K H z d r m' σ' H'', ct := fun σ' H'' => ∃ m', m' < m ∧ VI K H z d r m' σ' H'', rt := Q, bk := (tSeq (tIfS (tTest (tOp (rNeP K) (tVar 2) (tCB (rLenP K) (tCons (tVar 0) tNil)))) tNever tNext) (tRet (tVar 4))) { nx := fun _ H' => Q .non H', rt := Q } }, ct := fun σ' H'' => ∃ m', m' < m ∧ VI K H z d r m' σ' H'', rt := Q, bk := (tSeq (tIfS (tTest (tOp (rNeP K) (tVar 2) (tCB (rLenP K) (tCons (tVar 0) tNil)))) tNever tNext) (tRet (tVar 4))) { nx := fun _ H' => Q .non H', rt := Q } } [some (.str z), some (.ref r), some (.int (p : Int)), some (.str (sg (tl z)[p]?)), s4] H1
      else (tAsg (tCall (sp_atom_at K) [] E0 (tCons (tVar 0) (tCons (tVar 2) tNil))) (gTup K 2 (gCons (gName 4) (gCons (gName 2) gNil)))) { nx := t_tail K { nx := fun σ' H'' => ∃ m', m' < m ∧ VI K H z d r m' σ' H'', ct := fun σ' H'' => ∃ m', m' < m ∧ VI K H z d r m' σ' H'', rt := Q, bk := (tSeq (tIfS (tTest (tOp (rNeP K) (tVar 2) (tCB (rLenP K) (tCons (tVar 0) tNil)))) tNever tNext) (tRet (tVar 4))) { nx := fun _ H' => Q .non H', rt := Q } }, ct := fun σ' H'' => ∃ m', m' < m ∧ VI K H z d r m' σ' H'', rt := Q, bk := (tSeq (tIfS (tTest (tOp (rNeP K) (tVar 2) (tCB (rLenP K) (tCons (tVar 0) tNil)))) tNever tNext) (tRet (tVar 4))) { nx := fun _ H' => Q .non H', rt := Q } } [some (.str z), some (.ref r), some (.int (p : Int)), some (.str (sg (tl z)[p]?)), s4] H1 := by
    intro top st' stk hrow hf
    have hpz : p + 1 ≤ z.length := by
      cases st' with
      | nil =>
        have e := congrArg List.length hf.1
        rw [List.length_drop, ← len_tl] at e
        have hps : (tl z).drop p ≠ [] := fun hn => pne hn
        have : p < z.length := by
          refine Nat.lt_of_not_le fun hn => hps (List.drop_eq_nil_of_le (by rw [← len_tl]; exact hn))
        omega
      | cons up st' =>
        obtain ⟨r', e, _⟩ := hf
        have := (at_of_drop e).2.1
        omega
    have hrw := stk.rows
    generalize hls : ls = ls0 at hrw
    cases hrw with
    | @cons l vs ds ls' st2 h1 h2 h3 h4 =>
      subst hls
      refine ⟨.ref r, rfl, _, .inl ⟨_, .inl (.inl stk.top), rfl⟩, br (fun _ => ?_) (fun h => ?_)⟩
      · have e3 : (l :: ls').reverse.map V.ref = ls'.reverse.map V.ref ++ [.ref l] := by
          rw [List.reverse_cons, List.map_append]
          rfl
        have nd := stk.nd
        rw [List.nodup_cons, List.nodup_cons] at nd
        have hrl : l ≠ r := fun e => nd.1 (e ▸ List.mem_cons_self)
        have tx1 := tx_upd_lst (o := .lst ((l :: ls').reverse.map V.ref).dropLast) stk.top
        refine ⟨.ref r, rfl, .inl ⟨rfl, _, .inl (.inl stk.top)⟩, r, _, .ref l, rfl, rfl, stk.top, by rw [e3]; simp, l, vs, rfl, .inl ⟨.inl (.inl ((upd_ne hrl).trans h1)), fun q hq => ⟨_, rfl, p, 1, rfl, rfl, ?_⟩⟩⟩
        have tx2 := tx_upd_new (o := .tup vs) hq
        have tx : Tx H' (upd (upd H' r (.lst ((l :: ls').reverse.map V.ref).dropLast)) q (.tup vs)) := fun a o h n => tx2 a o (tx1 a o h n) n
        have rq : r ≠ q := fun e => by rw [← e, upd_same] at hq; cases hq
        have keep : ∀ a, a ≠ r → a ≠ q → upd (upd H' r (.lst ((l :: ls').reverse.map V.ref).dropLast)) q (.tup vs) a = H' a := fun a z1 z2 => by rw [upd_ne z2, upd_ne z1]
        have qnew : ∀ a o, H' a = some o → a ≠ q := fun a o e z => by
          subst z
          by_cases hra : a = r
          · exact rq hra.symm
          · rw [upd_ne hra, e] at hq
            cases hq
        refine tail (p + 1) ls' st' (some (.str (sg (tl z)[p]?))) (.ref q) (.tuple top) _ (by omega) hpz hf ⟨?_, ?_, ?_, ?_, ?_⟩ (fun row hr => by have := hrow row (List.mem_cons_of_mem _ hr); omega) (.tup (.inl (.inl upd_same)) (DpAll.tx tx h3 h2)) h3
        · rw [upd_ne rq, upd_same, e3, List.dropLast_concat]
        · rw [List.nodup_cons]
          exact ⟨fun h => nd.1 (List.mem_cons_of_mem _ h), nd.2.2⟩
        · intro a ha
          rcases List.mem_cons.mp ha with e | ha
          · exact stk.fr a (e ▸ List.mem_cons_self)
          · exact stk.fr a (List.mem_cons_of_mem _ (List.mem_cons_of_mem _ ha))
        · intro a o e
          have e5 := stk.old a o e
          rw [keep a (fun z => by rw [z, stk.fr r List.mem_cons_self] at e; cases e) (qnew a o e5)]
          exact e5
        · refine h4.mv (fun l' hl => ?_) tx
          obtain ⟨vs', e5⟩ := h4.lst l' hl
          exact keep l' (fun z => nd.1 (z ▸ List.mem_cons_of_mem _ hl)) (qnew l' _ e5)
      · simp at h
  have atom : ∀ (v : PyData) (rr : List Nat), Atm ((tl z).drop p) v rr → Fin_ st v rr d → (tSeq (tIfS (tTest (tOp (rEqP K) (tVar 3) (tC (.str "(")))) (tSeq (tIfS (tTest (tOp (rEqP K) (tCB (rLenP K) (tCons (tVar 1) tNil)) (tC (.int 60)))) tNever tNext)
  (tSeq (tDrop (tBM K "list" rAppend (tVar 1) (tCons (tLst tNil) tNil)))
  (tSeq (tAug 2 (tC (.int 1)) (ipI fun i j => i + j))
  tCont))) tNext)
  (tSeq (tIfS (tAnd (tTest (tOp (rEqP K) (tVar 3) (tC (.str ")")))) (tTru K (tVar 1))) (tSeq (tAsg (tCB (rTupP K) (tCons (tBM0 K "list" rPop (tVar 1)) tNil)) (gName 4))
  (tAug 2 (tC (.int 1)) (ipI fun i j => i + j))) (tAsg (tCall (sp_atom_at K) [] E0 (tCons (tVar 0) (tCons (tVar 2) tNil))) (gTup K 2 (gCons (gName 4) (gCons (gName 2) gNil)))))
  (t_tail K))) { nx := fun σ' H'' => ∃ m', m' < m ∧ VI K H z d r m' σ' H'', ct := fun σ' H'' => ∃ m', m' < m ∧ VI K H z d r m' σ' H'', rt := Q, bk := (tSeq (tIfS (tTest (tOp (rNeP K) (tVar 2) (tCB (rLenP K) (tCons (tVar 0) tNil)))) tNever tNext) (tRet (tVar 4))) { nx := fun _ H' => Q .non H', rt := Q } } [some (.str z), some (.ref r), some (.int (p : Int)), some (.str (sg (tl z)[p]?)), s4] H' := by
    intro v rr ha hf
    obtain ⟨c, w, hcw, n40, n41⟩ := atm_suf ha
    obtain ⟨a1, a2, a3⟩ := at_of_drop (hcw.trans (by rw [List.cons_append]))
    have hlen := len_drop hcw (Nat.le_of_lt a2)
    rw [List.length_cons] at hlen
    refine vl_op (vl_var rfl) vl_c o_eqS _ ⟨_, rfl, br (fun h => ?_) (fun _ => ?_)⟩
    · rw [sgeq _ par1, a1, dne n40] at h
      cases h
    refine vl_op (vl_var rfl) vl_c o_eqS _ ⟨_, rfl, br (fun h => ?_) (fun _ => ?_)⟩
    · rw [sgeq _ par2, a1, dne n41] at h
      cases h
    have ea : E1 (CtS K r ls H') (tCall (sp_atom_at K) [] E0 (tCons (tVar 0) (tCons (tVar 2) tNil))) [.dat (.str z), .un, .dat (.int (p : Int)), .un, .un] (.dat (.tuple [v, .int ((z.length - rr.length : Nat) : Int)])) :=
      e_callP (C := CtS K r ls H') (ks' := [.dat (.str z), .dat (.int (p : Int))]) (a_cons (e_var rfl) (a_cons (e_var rfl) a_nil)) (.cons (.dat fun h => by cases h) (.cons (.dat fun h => by cases h) .nil)) ⟨z, p, v, rr, rfl, ha, hz', rfl, rfl⟩ fun k h => h
    refine ea _ H' stk.rep _ fun k u H1 hk q o => ?_
    subst hk
    have o : Dp K (msk (CtS K r ls H') _ H1) u _ := o
    obtain ⟨a, xs, rfl, sq, da⟩ := dp_tup (Dp.ex msk_le o)
    cases da with
    | cons d1 da =>
      cases da with
      | cons d2 da =>
        cases da
        obtain rfl := dp_int d2
        refine ⟨a, _, rfl, sq, rfl, _, _, rfl, _, _, rfl, rfl, ?_⟩
        refine tail (z.length - rr.length) ls st (some (.str (sg (tl z)[p]?))) _ v H1 (by omega) (by omega) ?_ (stk.up q) (fun row hr => by have := hrow row hr; omega) d1 (atm_nl ha)
        have e9 : (tl z).drop (z.length - rr.length) = rr := by
          rw [show z.length - rr.length = p + (c :: w).length by rw [List.length_cons]; omega, ← List.drop_drop, hcw, List.drop_left]
        rw [e9]
        exact hf
  generalize hcs : (tl z).drop p = cs at par atom
  cases par with
  | op h60 par =>
    obtain ⟨a1, a2, a3⟩ := at_of_drop hcs
    refine vl_op (vl_var rfl) vl_c o_eqS _ ⟨_, rfl, br (fun _ => ?_) (fun h => ?_)⟩
    · refine vl_op (vl_len (vl_var rfl) stk.top) vl_c o_eq _ ⟨_, rfl, br (fun h => ?_) (fun _ => ?_)⟩
      · rw [lenr] at h
        have := of_decide_eq_true h
        omega
      · refine ⟨.ref r, rfl, .inl ⟨rfl, _, .inl (.inl stk.top)⟩, show 0 ≤ sizeLine by decide, fun q hq => ⟨r, _, .ref q, rfl, rfl, (upd_ne (ne_of_none stk.top hq)).trans stk.top, ?_, ?_⟩⟩
        · rw [lenr]
          exact Nat.lt_trans h60 (by decide)
        have hqr : r ≠ q := ne_of_none stk.top hq
        have hql : ∀ l ∈ ls, l ≠ q := fun l hl => by
          obtain ⟨vs, e⟩ := stk.rows.lst l hl
          exact ne_of_none e hq
        have hrl := List.nodup_cons.mp stk.nd
        have top1 : upd H' q (.lst []) r = some (.lst (ls.reverse.map V.ref)) := (upd_ne hqr).trans stk.top
        refine ⟨_, rfl, p, 1, rfl, rfl, m - 1, by omega, p + 1, q :: ls, [] :: st, some (.str (sg (tl z)[p]?)), s4, ?_, by omega, ?_, ⟨?_, ?_, ?_, ?_, ?_⟩, ?_⟩
        · show [some (V.str z), some (.ref r), some (.int ((p : Int) + 1)), some (.str (sg (tl z)[p]?)), s4] = _
          rw [show (p : Int) + 1 = ((p + 1 : Nat) : Int) by omega]
        · rw [a3]
          exact par
        · rw [upd_same, List.reverse_cons, List.map_append]
          rfl
        · rw [List.nodup_cons, List.nodup_cons]
          refine ⟨?_, fun hl => hql q hl rfl, hrl.2⟩
          intro hm
          rcases List.mem_cons.mp hm with e | hm
          · exact hqr e
          · exact hrl.1 hm
        · intro a ha
          rcases List.mem_cons.mp ha with e | ha
          · exact e ▸ stk.fr r List.mem_cons_self
          · rcases List.mem_cons.mp ha with e | ha
            · subst e
              cases hz : H a with
              | none => rfl
              | some o =>
                rw [stk.old a o hz] at hq
                cases hq
            · exact stk.fr a (List.mem_cons_of_mem _ ha)
        · intro a o e
          have n1 : a ≠ r := fun z => by rw [z, stk.fr r List.mem_cons_self] at e; cases e
          rw [upd_ne n1, upd_ne (ne_of_none (stk.old a o e) hq)]
          exact stk.old a o e
        · have tx : Tx H' (upd (upd H' q (.lst [])) r (.lst (ls.reverse.map V.ref ++ [V.ref q]))) := fun a o h n => tx_upd_lst top1 a o (tx_upd_new hq a o h n) n
          refine .cons (vs := []) ((upd_ne (Ne.symm hqr)).trans upd_same) .nil rfl (stk.rows.mv (fun l hl => ?_) tx)
          rw [upd_ne (show l ≠ r from fun z => hrl.1 (z ▸ hl)), upd_ne (hql l hl)]
        · intro row hrw
          rcases List.mem_cons.mp hrw with e | hrw
          · rw [e]
            exact Nat.zero_le _
          · have := hrow row hrw
            omega
    · rw [sgeq _ par1, a1] at h
      simp at h
  | @cl1 top =>
    obtain ⟨a1, a2, a3⟩ := at_of_drop hcs
    refine vl_op (vl_var rfl) vl_c o_eqS _ ⟨_, rfl, br (fun h => ?_) (fun _ => ?_)⟩
    · rw [sgeq _ par1, a1] at h
      simp at h
    refine vl_op (vl_var rfl) vl_c o_eqS _ ⟨_, rfl, br (fun _ => ?_) (fun h => ?_)⟩
    · exact close top [] stk hrow ⟨a3, rfl⟩
    · rw [sgeq _ par2, a1] at h
      simp at h
  | @cl2 top up st' r' _ par =>
    obtain ⟨a1, a2, a3⟩ := at_of_drop hcs
    refine vl_op (vl_var rfl) vl_c o_eqS _ ⟨_, rfl, br (fun h => ?_) (fun _ => ?_)⟩
    · rw [sgeq _ par1, a1] at h
      simp at h
    refine vl_op (vl_var rfl) vl_c o_eqS _ ⟨_, rfl, br (fun _ => ?_) (fun h => ?_)⟩
    · exact close top (up :: st') stk hrow ⟨r', a3, par⟩
    · rw [sgeq _ par2, a1] at h
      simp at h
  | at1 ha => exact atom d [] ha ⟨rfl, rfl⟩
  | @at2 _ r' v _ top st' ha par => exact atom v (44 :: r') ha ⟨r', rfl, par⟩
theorem go_untold (h : sp_untold K vs H Q E) : t_untold K { nx := fun _ H' => Q .non H', rt := Q } (L2.start ["text"] vs) H := by
  refine sp_body ?_ h
  rintro H E ks S Z ⟨z, d, rfl, hp, hz, rfl, rfl⟩ n _
  change BS ⟨K, noF, noJ, H, false, [], E, noZ⟩ _ [.dat (.str z)] _
  refine b_retS (e_callP (C := ⟨K, noF, noJ, H, false, [], E, noZ⟩) (S := fun k => k = .dat d) (ks' := [.dat (.str z)]) (a_cons (e_var rfl) a_nil) (.cons (.dat fun h => by cases h) .nil) ⟨z, d, rfl, hp, hz, rfl, rfl⟩ fun k h => h) ?_
  rintro _ rfl
  exact ⟨.inr (par_nl hp fun _ h => by cases h), rfl⟩
end
end Mh
namespace Mh
open PySem PySem.Spec PyProof.Rows L2 TL
/-! ### reading value texts: plain laws of any text -/
theorem numL_back : ∀ {w : List Nat}, arf w = true → numL (NumText.digitsVal w) = w := by
  intro w
  generalize hn : w.length = n
  induction n generalizing w with
  | zero =>
    intro h
    have : w = [] := List.length_eq_zero_iff.mp hn
    subst this
    exact absurd h (by decide)
  | succ n ih =>
    intro h
    obtain ⟨u, c, rfl⟩ : ∃ u c, w = u ++ [c] := ⟨w.dropLast, w.getLast (by intro e; subst e; simp at hn), (List.dropLast_concat_getLast _).symm⟩
    have hl : u.length = n := by simpa using hn
    have hall : (u ++ [c]).all fig = true := by
      unfold arf at h
      rw [Bool.and_eq_true] at h
      exact h.1
    have hc : 48 ≤ c ∧ c ≤ 57 := by
      have := List.all_eq_true.mp hall c (by simp)
      simpa [fig] using this
    have ev : NumText.digitsVal (u ++ [c]) = NumText.digitsVal u * 10 + (c - 48) := by
      unfold NumText.digitsVal
      rw [List.foldl_append]
      rfl
    cases hu : u with
    | nil =>
      rw [hu] at ev
      have e0 : NumText.digitsVal ([] ++ [c]) = c - 48 := by rw [ev]; simp [NumText.digitsVal]
      rw [e0, numL_lt (by omega)]
      have : 48 + (c - 48) = c := by omega
      rw [this]
      rfl
    | cons a t =>
      have ha : a ≠ 48 := by
        intro e
        subst e
        rw [hu] at h
        unfold arf at h
        rw [Bool.and_eq_true] at h
        have := h.2
        simp at this
      have hua : arf u = true := by
        unfold arf
        rw [List.all_append, Bool.and_eq_true] at hall
        rw [hall.1, hu]
        simp [ha]
      have ih2 := ih hl hua
      have pos : 1 ≤ NumText.digitsVal u := by
        refine Nat.one_le_iff_ne_zero.mpr fun e => ?_
        rw [e, numL_lt (by decide)] at ih2
        rw [hu] at ih2
        injection ih2 with e1 _
        exact ha e1.symm
      rw [← hu, ev, numL_step (by omega)]
      have e1 : (NumText.digitsVal u * 10 + (c - 48)) / 10 = NumText.digitsVal u := by omega
      have e2 : 48 + (NumText.digitsVal u * 10 + (c - 48)) % 10 = c := by omega
      rw [e1, e2, ih2]
theorem numL_small : ∀ {k n : Nat}, (numL n).length ≤ k → n < 10 ^ k
  | 0, n, h => by
    have := numL_ne n
    exact absurd (List.length_eq_zero_iff.mp (Nat.le_zero.mp h)) this
  | k + 1, n, h => by
    by_cases h10 : n < 10
    · exact Nat.lt_of_lt_of_le h10 (by rw [Nat.pow_succ]; exact Nat.le_mul_of_pos_left 10 (Nat.pow_pos (by decide)))
    · rw [numL_step (by omega), List.length_append, List.length_singleton] at h
      have := numL_small (k := k) (n := n / 10) (by omega)
      rw [Nat.pow_succ]
      omega
theorem tw_split (p : Nat → Bool) (l : List Nat) : l = l.takeWhile p ++ l.drop (l.takeWhile p).length := by
  have := List.take_append_drop (l.takeWhile p).length l
  rw [take_tw] at this
  exact this.symm
theorem tw_next {p : Nat → Bool} (l : List Nat) : ∀ c, (l.drop (l.takeWhile p).length).head? = some c → p c = false := by
  intro c hc
  have h := tw_at p l (l.takeWhile p).length (Nat.le_refl _)
  rw [List.head?_drop] at hc
  rw [hc] at h
  simpa using h
/-- a number at the front -/
def nmv (cs : List Nat) : PyData := numV ⟨(cs.takeWhile fig).toArray⟩ 40
theorem nmv_some {cs : List Nat} (h : nmv cs ≠ .none) : ∃ n : Nat, nmv cs = .int (n : Int) ∧ cs.takeWhile fig = numL n ∧ n < 10 ^ 40 := by
  unfold nmv numV at h ⊢
  split at h
  · exact absurd rfl h
  · rename_i hb
    rw [if_neg hb]
    have hb2 : decide ((40 : Int) < ((⟨(cs.takeWhile fig).toArray⟩ : Str).length : Int)) = false ∧ (!arf (cs.takeWhile fig)) = false := by
      have := Bool.eq_false_iff.mpr hb
      rw [Bool.or_eq_false_iff] at this
      exact this
    have ha : arf (cs.takeWhile fig) = true := by simpa using hb2.2
    have hl : (cs.takeWhile fig).length ≤ 40 := by
      have h1 := of_decide_eq_false hb2.1
      have h2 : (⟨(cs.takeWhile fig).toArray⟩ : Str).length = (cs.takeWhile fig).length := by rw [len_tl]
      omega
    have back := numL_back ha
    exact ⟨NumText.digitsVal (cs.takeWhile fig), rfl, back.symm, numL_small (by rw [back]; exact hl)⟩
theorem nmv_of {n : Nat} {r : List Nat} (hn : n < 10 ^ 40) (hr : ∀ c, r.head? = some c → fig c = false) : nmv (numL n ++ r) = .int (n : Int) := by
  have hfa : (numL n).all fig = true := List.all_eq_true.mpr fun c hc => by
    have := numL_digits n c hc
    simp [fig]
    exact this
  unfold nmv
  rw [tw_stop2 hfa hr]
  unfold numV
  have hcl : (⟨(numL n).toArray⟩ : Str).length = (numL n).length := by rw [len_tl]
  have hnl : (numL n).length ≤ 40 := numL_len (by decide) hn
  rw [hcl, decide_eq_false (by omega)]
  show (if (false || !arf (numL n)) then PyData.none else .int ((NumText.digitsVal (numL n) : Nat) : Int)) = _
  rw [numL_head, numL_val]
  rfl
theorem num_iff (cs : List Nat) : (∃ n r, cs = numL n ++ r ∧ n < 10 ^ 40 ∧ ∀ c, r.head? = some c → fig c = false) ↔ nmv cs ≠ .none := by
  constructor
  · rintro ⟨n, r, rfl, h1, h2⟩
    rw [nmv_of h1 h2]
    exact fun h => by cases h
  · intro h
    obtain ⟨n, _, h2, h3⟩ := nmv_some h
    refine ⟨n, cs.drop (cs.takeWhile fig).length, ?_, h3, tw_next cs⟩
    rw [← h2]
    exact tw_split fig cs
/-- a string at the front -/
theorem str_iff (cs : List Nat) : (∃ w r, cs = w ++ 34 :: r ∧ w.all ltr = true) ↔ cs[(cs.takeWhile ltr).length]? = some 34 := by
  constructor
  · rintro ⟨w, r, rfl, hw⟩
    rw [tw_stop hw rfl, List.getElem?_append_right (Nat.le_refl _), Nat.sub_self]
    rfl
  · intro h
    refine ⟨cs.takeWhile ltr, cs.drop ((cs.takeWhile ltr).length + 1), ?_, ?_⟩
    · have hl := (List.getElem?_eq_some_iff.mp h)
      obtain ⟨h1, h2⟩ := hl
      have := tw_split ltr cs
      rw [List.drop_eq_getElem_cons h1, h2] at this
      exact this
    · exact List.all_takeWhile
theorem atm_det {cs r r' : List Nat} {v v' : PyData} (h : Atm cs v r) (h' : Atm cs v' r') : v = v' ∧ r = r' := by
  cases h with
  | @non r =>
    generalize hc : (45 :: r) = cs at h'
    cases h' with
    | non =>
      injection hc with _ e
      exact ⟨rfl, e⟩
    | str _ => injection hc with e _; cases e
    | @num n _ _ _ =>
      obtain ⟨c, w, e⟩ := List.exists_cons_of_ne_nil (numL_ne n)
      have := numL_digits n c (by rw [e]; exact List.mem_cons_self)
      rw [e] at hc
      injection hc with e _
      omega
  | @str w r hw =>
    generalize hc : (34 :: (w ++ 34 :: r)) = cs at h'
    cases h' with
    | non => injection hc with e _; cases e
    | @str w' r' hw' =>
      injection hc with _ e
      have e1 := tw_stop (c := 34) (r := r) hw rfl
      have e2 := tw_stop (c := 34) (r := r') hw' rfl
      rw [e, e2] at e1
      subst e1
      have := List.append_cancel_left e
      injection this with _ e3
      exact ⟨rfl, e3⟩
    | @num n _ _ _ =>
      obtain ⟨c, w2, e⟩ := List.exists_cons_of_ne_nil (numL_ne n)
      have := numL_digits n c (by rw [e]; exact List.mem_cons_self)
      rw [e] at hc
      injection hc with e _
      omega
  | @num n r hn hr =>
    generalize hc : (numL n ++ r) = cs at h'
    have hd : ∀ m : Nat, ∃ c w, numL m = c :: w ∧ 48 ≤ c ∧ c ≤ 57 := fun m => by
      obtain ⟨c, w, e⟩ := List.exists_cons_of_ne_nil (numL_ne m)
      have := numL_digits m c (by rw [e]; exact List.mem_cons_self)
      exact ⟨c, w, e, this.1, this.2⟩
    cases h' with
    | non =>
      obtain ⟨c, w, e, a, b⟩ := hd n
      rw [e] at hc
      injection hc with e _
      omega
    | str _ =>
      obtain ⟨c, w, e, a, b⟩ := hd n
      rw [e] at hc
      injection hc with e _
      omega
    | @num m r' hm hr' =>
      have fa : ∀ m : Nat, (numL m).all fig = true := fun m => List.all_eq_true.mpr fun c hc => by
        have := numL_digits m c hc
        simp [fig]
        exact this
      have e1 := tw_stop2 (fa n) hr
      have e2 := tw_stop2 (fa m) hr'
      rw [hc, e2] at e1
      have e3 := numL_inj e1
      subst e3
      exact ⟨rfl, List.append_cancel_left hc⟩
/-! ### the steps of the reader, as equivalences -/
theorem par_op {st : List (List PyData)} {r : List Nat} {d : PyData} : Par st (40 :: r) d ↔ st.length < 60 ∧ Par ([] :: st) r d := by
  constructor
  · intro h
    cases h with
    | op h1 h2 => exact ⟨h1, h2⟩
    | at1 a =>
      obtain ⟨c, w, e, n, _⟩ := atm_suf a
      injection e with e _
      exact absurd e.symm n
    | at2 a _ =>
      obtain ⟨c, w, e, n, _⟩ := atm_suf a
      injection e with e _
      exact absurd e.symm n
  · exact fun h => .op h.1 h.2
theorem par_cl {top : List PyData} {st : List (List PyData)} {r : List Nat} {d : PyData} : Par (top :: st) (41 :: r) d ↔ Fin_ st (.tuple top) r d := by
  constructor
  · intro h
    cases h with
    | cl1 => exact ⟨rfl, rfl⟩
    | cl2 h => exact ⟨_, rfl, h⟩
    | at2 a _ =>
      obtain ⟨c, w, e, _, n⟩ := atm_suf a
      injection e with e _
      exact absurd e.symm n
  · intro h
    cases st with
    | nil =>
      obtain ⟨rfl, rfl⟩ := h
      exact .cl1
    | cons up st =>
      obtain ⟨r', rfl, p⟩ := h
      exact .cl2 p
theorem par_at {st : List (List PyData)} {cs : List Nat} {d : PyData} (h40 : cs.head? ≠ some 40) (h41 : cs.head? ≠ some 41 ∨ st = []) : Par st cs d ↔ ∃ v r, Atm cs v r ∧ Fin_ st v r d := by
  constructor
  · intro h
    cases h with
    | op _ _ => exact absurd rfl h40
    | cl1 => rcases h41 with h | h
             · exact absurd rfl h
             · cases h
    | cl2 _ => rcases h41 with h | h
               · exact absurd rfl h
               · cases h
    | at1 a => exact ⟨_, _, a, rfl, rfl⟩
    | at2 a p => exact ⟨_, _, a, _, rfl, p⟩
  · rintro ⟨v, r, a, f⟩
    exact fin_atm f fun _ => a
/-- what is read is what the text tells -/
def pre (st : List (List PyData)) : List Nat := match st with
  | [] => []
  | row :: st => pre st ++ 40 :: txtAll row
theorem par_back {st : List (List PyData)} {cs : List Nat} {d : PyData} (h : Par st cs d) : (∀ row ∈ st, gdAll row = true) → txt d = pre st ++ cs ∧ gd d = true := by
  have ag : ∀ {cs r : List Nat} {v : PyData}, Atm cs v r → cs = txt v ++ r ∧ gd v = true := fun {cs r v} a => by
    cases a with
    | non => exact ⟨rfl, rfl⟩
    | @str w _ hw => exact ⟨by rw [txt]; simp, hw⟩
    | @num n _ hn _ => exact ⟨rfl, by simp [gd]; omega⟩
  induction h with
  | @op st r d _ _ ih =>
    intro q
    obtain ⟨h1, h2⟩ := ih fun row h => by
      rcases List.mem_cons.mp h with e | h
      · rw [e]; rfl
      · exact q row h
    exact ⟨by rw [h1]; simp [pre, txtAll], h2⟩
  | @cl1 top =>
    intro q
    have hg := q top List.mem_cons_self
    exact ⟨by rw [txt]; simp [pre], hg⟩
  | @cl2 top up st r d _ ih =>
    intro q
    have hg := q top List.mem_cons_self
    obtain ⟨h1, h2⟩ := ih fun row h => by
      rcases List.mem_cons.mp h with e | h
      · rw [e, gdAll_app, q up (List.mem_cons_of_mem _ List.mem_cons_self)]
        simp [gdAll, gd, hg]
      · exact q row (List.mem_cons_of_mem _ (List.mem_cons_of_mem _ h))
    exact ⟨by rw [h1]; simp [pre, txtAll_app, txtAll, txt], h2⟩
  | at1 a =>
    intro _
    obtain ⟨h1, h2⟩ := ag a
    exact ⟨by rw [h1]; simp [pre], h2⟩
  | @at2 cs r v d top st a _ ih =>
    intro q
    obtain ⟨h1, h2⟩ := ag a
    obtain ⟨h3, h4⟩ := ih fun row h => by
      rcases List.mem_cons.mp h with e | h
      · rw [e, gdAll_app, q top List.mem_cons_self]
        simp [gdAll, h2]
      · exact q row (List.mem_cons_of_mem _ h)
    exact ⟨by rw [h3, h1]; simp [pre, txtAll_app, txtAll], h4⟩
theorem par_txt_back {cs : List Nat} {d : PyData} (h : Par [] cs d) : txt d = cs ∧ gd d = true := by
  obtain ⟨h1, h2⟩ := par_back h fun _ h => by cases h
  exact ⟨by rw [h1]; rfl, h2⟩
end Mh
namespace Mh
open PySem PySem.Spec PyProof.Rows L2 TL
/-! ### an __init__ that begins with super().__init__('..'), of a class under own classes under ValueError -/
/-- the written part's word of the class at D, its __init__ at f -/
structure HInit (P : Program) (K : PySem.W.Frag) (f D : Addr) (name qual : Str) (params : Arguments) (body : List Stmt) (scope : Scope) (fd : FuncData) : Prop where
  cls : OexC K D
  fn : ∃ (oc : Value) (od an : Option Addr) (osl : Array (Option Value)) (dV kV doc pm ct : Value) (cda cc : Addr) (ccl cl : Value) (cdd cld : Option Addr) (ccs csl : Array (Option Value)) (vs : Array Value) (file : Str) (tf : Tok),
    fd = PySem.W.fnX name qual params body scope [("__class__", cc)] dV kV doc pm an (.ref cda) ct ∧ K.lookup f = some ⟨oc, od, .func fd, osl⟩ ∧ PySem.W.codeIn K (.ref cda) qual = true ∧
    K.lookup cda = some ⟨ccl, cdd, .fields vs, ccs⟩ ∧ vs[2]? = some (.str file tf) ∧ ((P.main.file : Str) == file) = true ∧ K.lookup cc = some ⟨cl, cld, .cell (some (.ref D)), csl⟩
  sup : PySem.W.ks_superIn K D D "__init__" = some (some (.builtin "ValueError.__init__"))
  sub : PySem.W.subIn K (.ref D) (.type "ValueError") = some true
  selfs : PySem.W.mroIn K D (.ref D) = some true
  opq : PySem.W.nsIn K PySem.cStatics "thirdparty.any" = some none
abbrev supSt (p0 p1 p2 p3 p4 p5 : Pos) (z : Str) (kd : Nat) : Stmt := .Expr (.Call (.Attribute (.Call (.Name "super" p0) [] [] p1) "__init__" p2) [.Constant (.str z) kd p3] [] p4) p5
section
variable {CX : CXT} {P : Program} {w : World} {K : PySem.W.Frag} {mg : Str → Option Value} {base : Heap} {N : List Str} {env : Env} {A : Around} {outer : List Env} {s : Shared} {H : Hp} {E : XK}
/-- the context of such a body -/
def cxH (CX : CXT) (P : Program) (w : World) (K : PySem.W.Frag) (mg : Str → Option Value) (base : Heap) (N : List Str) (env : Env) (A : Around) (outer : List Env) (s : Shared) (H : Hp) (E : XK) : Cx where
  prog := P
  w := w
  K := K
  mg := mg
  base := base
  A := A.deeper env
  N := N
  s_0 := s
  H_0 := H
  env := env
  outer := outer
  stack := env :: outer
  ex := []
  calm := true
  fn := fun _ => false
  pn := []
  xe := fun e s' => wpAny (model P w) (A.deeper env) (leaving env e) (fun _ s'' => CX outer H s E e s'') (fun e' s'' => CX outer H s E e' s'') s'
end
/-- the wrapper called -/
theorem call_mwV {prog : Program} {w : World} {A : Around} {E : Value → Shared → Prop} {h : Heap} {g : Array GenState} {d : Drawn} {t : Nat} {os : OsState}
    {nm q : Str} {C N : Addr} {bs bm : List Value} {hdct : Bool} {sn : List Str} {sub : List Value} {ab : Bool} {col : Option Bool} {dd : Option Addr} {k0 k1 k2 k3 k5 : Option Value} {u e t0 : Addr} {rest : List Value} {Q : Value → Shared → Prop}
    (hC : h.get? C = some (excClassObj nm q C N bs bm hdct sn sub ab col dd k0 k1 k2 k3 k5 "ValueError.__new__")) (he : h.get? e = some (HandSPX.excO C t0)) (hu : h.get? u = some (PySem.W.kxs_mw "ValueError.__init__" e)) (hrest : rest.length ≤ sizeLine)
    (hq : ∀ h' t1, (∀ b o, b ≠ e → h.get? b = some o → h'.get? b = some o) → h'.get? e = some (HandSPX.excO C t1) → Q .none ⟨h', g, d, t, os⟩) :
    wpAny (model prog w) A (call (.ref u) rest) Q E ⟨h, g, d, t, os⟩ := by
  refine wpAny_call (codeAny_of_tree ?_)
  show wpAny _ A.in1 (callAny (.ref u) ⟨rest, []⟩) _ _ _
  simp only [callAny]
  refine wpAny_bind (wpAny_load hu ?_)
  simp only [PySem.W.kxs_mw, show (Value.type "method-wrapper" == Value.type "method" || Value.type "method-wrapper" == Value.type "builtin_function_or_method" || Value.type "method-wrapper" == Value.type "method-wrapper") = true by decide, if_true]
  refine W.KFB.if_so (by decide) ?_
  refine wpAny_bind (ESX.check_bound F.excBase_ValueError hC he rfl ?_)
  refine wpAny_bind (wpAny_pure (wpAny_pure ?_))
  refine ⟨Code.quiet_builtin _ (by decide +kernel), codeAny_builtin F.excBase_ValueError.initEntry ?_⟩
  rw [Around.under_plainId F.excBase_ValueError.init.plain _]
  wp_walk
  refine hq _ h.objs.size (fun b o hb ho => ?_) ?_
  · rw [Heap.get?_update_other _ _ (Ne.symm hb)]
    exact Heap.get?_push_of_some _ ho
  · rw [Heap.get?_update_self _ (Heap.get?_push_of_some _ he) rfl]
    rfl

theorem clsIn_of {K : PySem.W.Frag} {C : Addr} (T : OexC K C) : ∃ cd, PySem.W.clsIn K C = some cd := by
  obtain ⟨nm, q, N, bs, bm, sn, sub, ab, col, dd, k0, k1, k2, k3, k5, hC, hbm⟩ := T.cls
  exact ⟨{ name := nm, bases := bs, mro := .ref C :: bm, ns := N, qualname := q, hasDict := true, slotNames := sn, subclasses := sub, abstract := ab, collection := col, hasDel := false }, by unfold PySem.W.clsIn; rw [hC] <;> rfl⟩
section
variable {CX : CXT} {P : Program} {w : World} {K : PySem.W.Frag} {mg : Str → Option Value} {base : Heap} {X : Cx}
/-- super().__init__('..') at the front: the rest of the body stands behind it -/
theorem sup_run {f D cda cc : Addr} {fd : FuncData} {body rest : List Stmt} {pins : List (Addr × Obj)} {s : Shared} {σ : L2.St} {H : Hp} {a : Addr} {p0 p1 p2 p3 p4 p5 : Pos} {z : Str} {kd : Nat} {ar : Arg} {oc cl ccl : Value} {od cld cdd : Option Addr} {osl csl ccs : Array (Option Value)} {vs : Array Value} {file : Str} {tf : Tok}
    {Q : Flow → Shared → Prop} {m0 : Str → Option Value} (I : Inv X pins σ H s) (T : OexC X.K D) (hsup : PySem.W.ks_superIn X.K D D "__init__" = some (some (.builtin "ValueError.__init__"))) (hsub : PySem.W.subIn X.K (.ref D) (.type "ValueError") = some true) (hself : PySem.W.mroIn X.K D (.ref D) = some true)
    (hopq : PySem.W.nsIn X.K cStatics "thirdparty.any" = some none) (hfl : X.K.lookup f = some ⟨oc, od, .func fd, osl⟩) (hhead : (fd.params.posonlyargs ++ fd.params.args).head? = some ar) (hcodel : X.K.lookup cda = some ⟨ccl, cdd, .fields vs, ccs⟩) (hvs : vs[2]? = some (.str file tf)) (hfile : ((X.prog.main.file : Str) == file) = true)
    (hcell : X.K.lookup cc = some ⟨cl, cld, .cell (some (.ref D)), csl⟩) (mgs : X.mg "super" = none)
    (hef : X.env.func = some f) (hec : X.env.code = .ref cda) (hks : X.env.kindOf "super" = some .globalImplicit) (hkc : X.env.kindOf "__class__" = some .free) (hka : X.env.kindOf ar.arg = some .local) (hcc : X.env.cells.lookup ("__class__" : Str) = some cc)
    (htop : (X.prog.main.scope.names.lookup ("super" : Str)).isSome = false) (hns : s.heap.Ns X.env.locals m0) (hm0 : m0 ar.arg = some (.ref a)) (ea : H a = some (exo a D none))
    {pl : Sem Bool} (he : eval (.Call (.Attribute (.Call (.Name "super" p0) [] [] p1) "__init__" p2) [.Constant (.str z) kd p3] [] p4) X.env = (do
      let ov ← attributeBase (.Call (.Name "super" p0) [] [] p1) "__init__" X.env (eval (.Call (.Name "super" p0) [] [] p1) X.env)
      standAt p2.atName
      let (f, first) ← holding [ov] (getMethod ov "__init__" pl)
      callWith p4 f first (backTo p4 (starEach [.Constant (.str z) kd p3] X.env)) [])) (hi : interactive X.env = false) (hsw : swapsWith (.Call (.Attribute (.Call (.Name "super" p0) [] [] p1) "__init__" p2) [.Constant (.str z) kd p3] [] p4) none p5.line X.env = pure false)
    (k : ∀ s', Inv X pins σ H s' → wpAny (model X.prog X.w) X.A (execs rest X.env) Q X.xe s') :
    _root_.PySem.wpAt (model X.prog X.w) X.A (.func body X.env) (execs (supSt p0 p1 p2 p3 p4 p5 z kd :: rest) X.env) Q X.xe s := by
  obtain ⟨cd, hcd⟩ := clsIn_of T
  obtain ⟨oD, hD1, hD2⟩ : ∃ oD, X.K.lookup D = some oD ∧ oD.data = .cls cd := by
    unfold PySem.W.clsIn at hcd
    split at hcd
    · rename_i c d cd' sl ho
      cases hcd
      exact ⟨_, ho, rfl⟩
    · cases hcd
  obtain ⟨nm, q, N, bs, bm, sn, sub, ab, col, dd, k0, k1, k2, k3, k5, hC, hbm⟩ := T.cls
  refine PySem.ks_wpAt_execs_cons (PySem.ks_wpAt_Expr_any (PySem.ks_wpAt_MethodCall (pl := pl) (PySem.ks_wpAt_super_base hks hkc (by decide) hef (I.kIn _ _ hfl) rfl hhead hec (I.kIn _ _ hcodel) rfl hvs hfile htop ?_) he) hi hsw)
  have gb : s.heap.Ns X.env.globals X.mg := by
    rw [I.ok.glob]
    exact I.mod.glob.keeps I.bk
  obtain ⟨mb, hmb, hmb2⟩ := I.mod.blt
  have bb : s.heap.Ns X.env.builtins mb := by
    rw [I.ok.blt]
    exact hmb.keeps I.bk
  refine PySem.W.ks_loadName_global I.ok.kind hks (PySem.Calls.loadGlobal_builtin gb mgs bb ((hmb2 "super" (by decide)).trans (by kernel_rfl)) ⟨rfl, ?_⟩)
  refine wpAny_loadName_free I.ok.kind hkc hcc ⟨_, I.kIn _ _ hcell, rfl⟩ ?_
  refine wpAny_loadName_local I.ok.kind hka hns hm0 ?_
  have hDh : s.heap.get? D = some oD := I.kIn _ _ hD1
  obtain ⟨t1, ho⟩ := exo_at I.hok ea
  obtain ⟨hp, g, d, t, os⟩ := s
  refine PySem.ks_wpAny_isType_cls hDh hD2 ⟨rfl, ?_⟩
  refine PySem.ks_wpAny_call_super hDh hD2 ho rfl (fun c e => by cases e) (PySem.W.looks_mroIn I.kIn hself) fun h' e1 kp => ?_
  have I2 : Inv X pins σ H ⟨h', g, d, t, os⟩ := I.kept (t' := t) kp
  have ho2 := kp _ _ ho
  have IA : PySem.W.InstAt h' a { cls := .ref D, dict := none, data := .fields #[.ref t1, .none, .none, .none, .bool false, .none] } D none := ⟨ho2, rfl, rfl, trivial⟩
  have hsup2 := hsup
  unfold PySem.W.ks_superIn at hsup2
  rw [hcd] at hsup2
  refine PySem.W.kxs_getMethod PySem.W.kxs_ValueError e1 (PySem.W.looks_opaque I2.kIn hopq) (l₀ := cd.mro) (fun A Q E s k q => wpAny_bind ((PySem.W.looks_clsIn I2.kIn hcd) A _ E s k (wpAny_pure q))) rfl I2.kIn hsup2 (IA.type.andThen (PySem.W.looks_subIn I2.kIn hsub)) (PySem.W.ks_ne I2.kIn IA hcd) (by decide) ?_
  have kp2 : ∀ b o, h'.get? b = some o → (h'.push (PySem.W.kxs_mw "ValueError.__init__" a)).get? b = some o := fun b o e => Heap.get?_push_of_some _ e
  have I3 : Inv X pins σ H ⟨h'.push (PySem.W.kxs_mw "ValueError.__init__" a), g, d, t + 1, os⟩ := I2.kept (t' := t + 1) kp2
  have hu3 : (h'.push (PySem.W.kxs_mw "ValueError.__init__" a)).get? h'.objs.size = some (PySem.W.kxs_mw "ValueError.__init__" a) := Heap.get?_push_size _ rfl
  refine PySem.W.kxs_callWith (i := "ValueError.__init__") (x := a) rfl (PySem.Calls.evalArgs_plain ?_)
  refine args_cons (env := X.env) (rest := []) (Calls.Constant_str (args_nil ⟨hu3, ?_⟩)) rfl
  have ho3 := kp2 _ _ ho2
  have hC3 := I3.kIn _ _ hC
  refine call_mwV hC3 ho3 hu3 (show 1 ≤ sizeLine by decide) fun h4 t4 kq hx => ?_
  have J := I3.write (t' := t + 1 + 1) (x := a) (e := a) (h' := h4) (o := exo a D none) (by rw [ea]; exact True.intro) (.inl rfl) kq ⟨_, hx⟩ (exo_ok hx)
  have eu : upd H a (exo a D none) = H := by
    funext b
    by_cases hb : b = a
    · rw [hb, upd_same, ea]
    · rw [upd_ne hb]
  rw [eu] at J
  exact wpAt_of_wpAny (k _ J)
end

theorem lookup_nd {x : Str} {v : Value} : ∀ {l : List (Str × Value)}, (l.map (·.1)).Nodup → (x, v) ∈ l → l.lookup x = some v
  | [], _, h => by simp at h
  | (y, u) :: l, nd, h => by
    rw [List.map_cons, List.nodup_cons] at nd
    rcases List.mem_cons.mp h with e | h
    · cases e
      simp [List.lookup]
    · have ne : x ≠ y := fun e => nd.1 (e ▸ List.mem_map_of_mem (f := (·.1)) h)
      have : (x == y) = false := by simpa using ne
      simp only [List.lookup, this]
      exact lookup_nd nd.2 h
theorem look_one {x : Str} {c cc : Addr} {a : Str} (h : ([(a, cc)] : List (Str × Addr)).lookup x = some c) : x = a ∧ c = cc := by
  simp only [List.lookup] at h
  split at h
  · rename_i e
    exact ⟨by simpa using e, (Option.some.inj h).symm⟩
  · cases h
section
variable {CX : CXT} {P : Program} {w : World} {K : PySem.W.Frag} {mg : Str → Option Value} {base : Heap}
/-- THE RULE for such an __init__ -/
theorem hall_fn {f D : Addr} {fd : FuncData} {name qual : Str} {params : Arguments} {rest : List Stmt} {scope : Scope} {ps : List Str} {sp : Sp} {p0 p1 p2 p3 p4 p5 : Pos} {z : Str} {kd : Nat}
    (h : HInit P K f D name qual params (supSt p0 p1 p2 p3 p4 p5 z kd :: rest) scope fd) (mgs : mg "super" = none) (hhead : ∃ ar : Arg, (params.posonlyargs ++ params.args).head? = some ar ∧ ps.head? = some ar.arg)
    (sk : scope.kind = .function) (sco : scope.isCoroutine = false) (sgen : scope.isGenerator = false) (nocell : ∀ x ∈ scope.names, x.2 ≠ .cell) (loc : ∀ x ∈ ps, scope.names.lookup x = some .local) (nd : ps.Nodup)
    (fr : ∀ x, scope.names.lookup x = some .free → x = "__class__") (frc : scope.names.lookup ("__class__" : Str) = some .free) (sg : scope.names.lookup ("super" : Str) = some .globalImplicit) (htop : (P.main.scope.names.lookup ("super" : Str)).isSome = false)
    (len : ∀ vs H Q E, sp vs H Q E → vs.length = ps.length) (slf : ∀ vs H Q E, sp vs H Q E → ∃ a tl, vs = .ref a :: tl ∧ H a = some (exo a D none))
    {pl : Sem Bool} (he : ∀ env : Env, eval (.Call (.Attribute (.Call (.Name "super" p0) [] [] p1) "__init__" p2) [.Constant (.str z) kd p3] [] p4) env = (do
      let ov ← attributeBase (.Call (.Name "super" p0) [] [] p1) "__init__" env (eval (.Call (.Name "super" p0) [] [] p1) env)
      standAt p2.atName
      let (f, first) ← holding [ov] (getMethod ov "__init__" pl)
      callWith p4 f first (backTo p4 (starEach [.Constant (.str z) kd p3] env)) [])) (hsw : ∀ env : Env, swapsWith (.Call (.Attribute (.Call (.Name "super" p0) [] [] p1) "__init__" p2) [.Constant (.str z) kd p3] [] p4) none p5.line env = pure false)
    (hb : ∀ (env : Env) (A : Around) (outer : List Env) (s : Shared) (H : Hp) (vs : List V) (Q : VK) (E : XK), env.scope = scope → sp vs H Q E → ∃ t, PSs (cxH CX P w K mg base ps env A outer s H E) rest t ∧ t { nx := fun _ H' => Q .non H', rt := Q } (L2.start ps vs) H) :
    FnOk P w K mg base CX 1 f fd ps sp := ⟨len, fun A outer s H args us vs Q E room e0 bind vals prom => by
  obtain ⟨oc, od, an, osl, dV, kV, doc, pm, ct, cda, cc, ccl, cl, cdd, cld, ccs, csl, fvs, file, tf, rfl, there, code, hcodel, hvs, hfile, hcell⟩ := h.fn
  obtain ⟨ar, ha1, ha2⟩ := hhead
  obtain ⟨a, tl', rfl, ea⟩ := slf _ _ _ _ prom
  have stands : K.In s.heap := e0.mod.kin.keeps fun a o e => (e0.bs a o e).1
  have free : s.heap.NoLimit := e0.mod.nolimit.keeps fun a o e => (e0.bs a o e).1
  have size := len _ _ _ _ prom
  have hul : us.length = ps.length := by rw [← vals.length]; exact size
  refine PySem.ks_codeAny_call_defAt (fd := PySem.W.fnX name qual params (supSt p0 p1 p2 p3 p4 p5 z kd :: rest) scope [("__class__", cc)] dV kV doc pm an (.ref cda) ct) room.depth (stands _ _ there) rfl free (PySem.W.codeRec_of stands code) rfl bind nocell (fun x hx => loc _ (List.of_mem_zip hx).1) (fun h₀ ns keep => ?_) sco sgen sk
  generalize henv : callEnv (PySem.W.fnX name qual params (supSt p0 p1 p2 p3 p4 p5 z kd :: rest) scope [("__class__", cc)] dV kV doc pm an (.ref cda) ct) s.heap.objs.size f = env
  have env1 : env.scope = scope := by rw [← henv]; rfl
  have env2 : env.cells = [(("__class__" : Str), cc)] := by rw [← henv]; rfl
  have env3 : env.locals = s.heap.objs.size := by rw [← henv]; rfl
  have env4 : env.globals = mainGlobals ∧ env.builtins = builtinsNs := by rw [← henv]; exact ⟨rfl, rfl⟩
  have env5 : env.func = some f ∧ env.code = .ref cda ∧ env.frame = some s.heap.objs.size := by rw [← henv]; exact ⟨rfl, rfl, rfl⟩
  have mapfst : ((ps.zip us).reverse.map (·.1)).Nodup := by
    rw [List.map_reverse, List.map_fst_zip (Nat.le_of_eq hul.symm)]
    exact List.pairwise_reverse.mpr (nd.imp Ne.symm)
  have at_ : ∀ (i : Nat) (y : Str) (u : Value), ps[i]? = some y → us[i]? = some u → (ps.zip us).reverse.lookup y = some u := fun i y u h1 h2 => lookup_nd mapfst (List.mem_reverse.mpr (List.mem_of_getElem? (i := i) (by rw [List.getElem?_zip_eq_some]; exact ⟨h1, h2⟩)))
  have I : Inv (cxH CX P w K mg base ps env A outer s H E) [] (L2.start ps (.ref a :: tl')) H { s with heap := h₀, toks := s.toks + (ps.zip us).length } := by
    refine ⟨⟨e0.mod, by show env.scope.kind = _; rw [env1, sk], env4.1, env4.2, by show _ ≤ env.locals; rw [env3]; exact Nat.le_refl _, fun x y c h1 h2 => ?_, fun y hy => ?_, fun y c z _ => absurd (show false = true from z) Bool.false_ne_true, fun _ => room.hd, Around.frames_deeper e0.frames, .inr ⟨rfl, by show env.frame = some env.locals; rw [env3]; exact env5.2.2⟩, fun b z => absurd (show b ∈ ([] : List Addr) from z) (by simp), e0.bs, e0.bsz, fun b _ _ => (by show b ∉ ([] : List Addr); simp), fun b z => absurd (show b ∈ ([] : List Addr) from z) (by simp), e0.funs, e0.frf⟩,
      rfl, e0.bare, Un.kept keep, ⟨_, by show h₀.Ns env.locals _; rw [env3]; exact ns, fun i y v h1 h2 h3 => ?_⟩, fun y c h => ?_, by show H env.locals = none; rw [env3]; exact e0.hok.fresh (Nat.le_refl _), fun y c h => ?_, fun p hp => absurd (show p ∈ ([] : List (Addr × Obj)) from hp) (by simp), e0.hok.kept keep, ?_⟩
    · have h1 : env.cells.lookup x = some c := h1
      have h2 : env.cells.lookup y = some c := h2
      rw [env2] at h1 h2
      rw [(look_one h1).1, (look_one h2).1]
    · have hy : env.scope.names.lookup y = some .cell ∨ env.scope.names.lookup y = some .free := hy
      rw [env1] at hy
      rcases hy with hy | hy
      · exact absurd rfl (nocell _ (PySem.mem_of_lookup hy))
      · rw [fr y hy]
        refine ⟨cc, ?_⟩
        show env.cells.lookup _ = _
        rw [env2]
        simp [List.lookup]
    · have hi : i < (V.ref a :: tl').length := by
        unfold L2.start at h2
        by_cases hi : i < (V.ref a :: tl').length
        · exact hi
        · rw [List.getElem?_append_right (by simpa using hi), List.getElem?_replicate] at h2
          split at h2 <;> cases h2
      have ha : (V.ref a :: tl')[i]? = some v := by
        unfold L2.start at h2
        rw [List.getElem?_append_left (by simpa using hi), List.getElem?_map] at h2
        cases e : (V.ref a :: tl')[i]? with
        | none => rw [e] at h2; cases h2
        | some a => rw [e] at h2; cases h2; rfl
      obtain ⟨u, hu, rv⟩ := vals.get ha
      refine ⟨u, rv, .inl ⟨?_, at_ i y u h1 hu⟩⟩
      show env.scope.names.lookup y = _
      rw [env1]
      exact loc y (List.mem_of_getElem? h1)
    · have h : env.cells.lookup y = some c := h
      rw [env2] at h
      rw [(look_one h).2]
      exact ⟨_, _, keep _ _ (stands _ _ hcell), rfl⟩
    · have h : env.cells.lookup y = some c := h
      rw [env2] at h
      rw [(look_one h).2]
      exact (e0.bs _ _ (e0.mod.kin _ _ hcell)).2
    · unfold L2.start
      show _ = ps.length
      rw [List.length_append, List.length_map, List.length_replicate]
      omega
  obtain ⟨t, body', reads⟩ := hb env A outer s H _ Q E env1 prom
  obtain ⟨u0, ur, rfl⟩ : ∃ u0 ur, us = u0 :: ur := by
    cases vals with
    | cons h1 h2 => exact ⟨_, _, rfl⟩
  have hu0 : u0 = .ref a := by
    cases vals with
    | cons h1 h2 => exact h1
  subst hu0
  obtain ⟨pt, hps⟩ : ∃ pt, ps = ar.arg :: pt := by
    cases ps with
    | nil => cases ha2
    | cons x xs =>
      cases ha2
      exact ⟨xs, rfl⟩
  refine PySem.ks_wpAt_mono (sup_run (a := a) I h.cls h.sup h.sub h.selfs h.opq there ha1 hcodel hvs hfile hcell mgs env5.1 env5.2.1 (by show env.scope.names.lookup _ = _; rw [env1]; exact sg) (by show env.scope.names.lookup _ = _; rw [env1]; exact frc) (by show env.scope.names.lookup _ = _; rw [env1]; exact loc _ (by rw [hps]; exact List.mem_cons_self))
    (by show env.cells.lookup _ = _; rw [env2]; simp [List.lookup]) htop (by show h₀.Ns env.locals _; rw [env3]; exact ns) (at_ 0 _ _ (by rw [hps]; rfl) rfl) ea (he env) (by unfold interactive; show (env.scope.kind == _ && _) = false; rw [env1, sk]; rfl) (hsw env) fun s' J => body'.run [] s' _ H _ J reads) (fun flow s' out => ?_) fun _ _ out => out
  cases flow with
  | next =>
    obtain ⟨_, H', J, q⟩ := out
    exact ⟨.non, H', J.os, J.bare, J.base, J.hok, rfl, q⟩
  | ret u =>
    obtain ⟨v, _, H', J, rv, q⟩ := out
    exact ⟨v, H', J.os, J.bare, J.base, J.hok, rv, q⟩
  | brk => exact out.choose_spec.choose_spec.2.elim
  | cont => exact out.choose_spec.choose_spec.2.elim⟩
end
end Mh
namespace Mh
open PySem PySem.Spec PyProof.Rows L2 TL
theorem passF {X : Cx} : Passes (L2N.CX X.prog X.w) X E0 := fun _ _ _ _ _ _ _ c => by
  obtain ⟨_, _, _, _, _, _, _, _, _, _, _, _, z⟩ := c
  exact z.elim
/-! ### fields of an exception that is made -/
def spI1 (C : Addr) (f1 : Str) : Sp := fun vs H Q E => ∃ a v1, vs = [.ref a, v1] ∧ H a = some (exo a C none) ∧ ∀ d, H d = none → d ≠ a → Q .non (upd (upd H d (exd d [(f1, v1)])) a (exo a C (some d)))
def spI2 (C : Addr) (f1 f2 : Str) : Sp := fun vs H Q E => ∃ a v1 v2, vs = [.ref a, v1, v2] ∧ H a = some (exo a C none) ∧ ∀ d, H d = none → d ≠ a → Q .non (upd (upd (upd H d (exd d [(f1, v1)])) a (exo a C (some d))) d (exd d [(f2, v2), (f1, v1)]))
section
variable {K : PySem.W.Frag} {C : Addr} {f1 f2 : Str} {vs : List V} {H : Hp} {Q : VK} {E : XK}
theorem go_I1 {ps : List Str} (hp : ps.length = 2) (T : OexC K C) (n1 : PySem.W.findIn K (.ref C) f1 = some none) (h : spI1 C f1 vs H Q E) : tOst K f1 (tVar 0) (tVar 1) { nx := fun _ H' => Q .non H', rt := Q } (L2.start ps vs) H := by
  obtain ⟨a, v1, rfl, ha, q⟩ := h
  have e : L2.start ps [V.ref a, v1] = [some (.ref a), some v1] := by
    unfold L2.start
    rw [hp]
    rfl
  rw [e]
  exact ⟨v1, rfl, .ref a, rfl, a, C, rfl, T, n1, .inl ⟨ha, q⟩⟩
theorem go_I2 {ps : List Str} (hp : ps.length = 3) (T : OexC K C) (n1 : PySem.W.findIn K (.ref C) f1 = some none) (n2 : PySem.W.findIn K (.ref C) f2 = some none) (h : spI2 C f1 f2 vs H Q E) :
    tSeq (tOst K f1 (tVar 0) (tVar 1)) (tOst K f2 (tVar 0) (tVar 2)) { nx := fun _ H' => Q .non H', rt := Q } (L2.start ps vs) H := by
  obtain ⟨a, v1, v2, rfl, ha, q⟩ := h
  have e : L2.start ps [V.ref a, v1, v2] = [some (.ref a), some v1, some v2] := by
    unfold L2.start
    rw [hp]
    rfl
  rw [e]
  refine ⟨v1, rfl, .ref a, rfl, a, C, rfl, T, n1, .inl ⟨ha, fun d hd na => ?_⟩⟩
  exact ⟨v2, rfl, .ref a, rfl, a, C, rfl, T, n2, .inr ⟨d, _, upd_same, (by rw [upd_ne na, upd_same] : _ = some (exd d [(f1, v1)])), show 1 ≤ 900 by decide, q d hd na⟩⟩
end
/-! ### raise C(e, ..) -/
structure Rz (P : Program) (w : World) (K : PySem.W.Frag) (mg : Str → Option Value) (base : Heap) (x : Str) (C : Addr) (ps : List Str) (sp : Sp) : Prop where
  T : OexC K C
  ex : ∃ fI fd, PySem.W.findIn K (.ref C) "__init__" = some (some (.ref fI)) ∧ PySem.W.typeIn K (.ref fI) = some (.type "function") ∧ FnOk P w K mg base (L2N.CX P w) 1 fI fd ps sp ∧ Binds K fd ps []
  m : mg x = some (.ref C)
section
variable {X : Cx} {W : WX} {x : Str} {C : Addr} {f1 f2 : Str} {ps : List Str} {e : Expr} {es : List Expr} {ta : TA} {p pos pos2 : Pos}
theorem fin_eq {H1 : Hp} {a d : Addr} {u : HO} (hd : H1 d = none) (ha : H1 a = none) (na : d ≠ a) (H2 : Hp) (h2 : ∀ b, b ≠ a → b ≠ d → H2 b = H1 b) : upd (L2.del H2 a) d u = upd H1 d u := by
  funext b
  by_cases hb : b = d
  · rw [hb, upd_same, upd_same]
  · rw [upd_ne hb, upd_ne hb]
    by_cases hba : b = a
    · rw [hba, L2.del_same, ha]
    · rw [L2.del_ne hba, h2 b hba hb]
/-- C(e, ..), an exception whose context is None -/
theorem pmk_N {CXx : CXT} {fI : Addr} {k : Nat} {fd : FuncData} {sp : Sp} (T : OexC X.K C) (iC : PySem.W.findIn X.K (.ref C) "__init__" = some (some (.ref fI))) (tI : PySem.W.typeIn X.K (.ref fI) = some (.type "function"))
    (F1 : FnOk X.prog X.w X.K X.mg X.base CXx k fI fd ps sp) (hr : Room (k + 1) X.A) (hb : Binds X.K fd ps []) (hx : Passes CXx X (fun _ _ _ => False)) (gl : Gl X x) (hm : X.mg x = some (.ref C)) (ha : PA X (e :: es) ta)
    (hdb : (x == ("__debug__" : Str)) = false) (he : starEach (e :: es) X.env = (false, eval e X.env) :: starEach es X.env) (hpl : (backTo pos (starEach es X.env)).any (·.1) = false) :
    L2N.PMk X (.Call (.Name x p) (e :: es) [] pos) (tMkO C sp [] ta) := fun pins s σ H Q I h => by
  obtain ⟨nm, q, N, bs, bm, sn, sub, ab, col, dd, k0, k1, k2, k3, k5, hC, hbm⟩ := T.cls
  refine wpAny_Call_Name_kw (ld_glob I gl hm (PySem.W.callWith_K (h₀ := X.base) I.ok.mod.kin T.kC (thn (ha.run pos pins s σ H _ I h) fun us s1 hq => ?_) he hpl) hdb)
  obtain ⟨vs, H1, I1, r1, hz, q1⟩ := hq
  refine ⟨I1.kIn, ?_⟩
  show wpAny _ _ (call (.ref C) us) _ _ _
  obtain ⟨hp, g, dr, tk, os⟩ := s1
  generalize hA : hp.objs.size + 1 = a
  have hle : hp.objs.size ≤ a := by rw [← hA]; exact Nat.le_succ _
  have kk : ∀ b o, hp.get? b = some o → ((hp.push (PySem.W.kdv_tup us)).push (PySem.HandSPX.excO C hp.objs.size)).get? b = some o := fun b o z => Heap.get?_push_of_some _ (Heap.get?_push_of_some _ z)
  have hget : ((hp.push (PySem.W.kdv_tup us)).push (PySem.HandSPX.excO C hp.objs.size)).get? a = some (PySem.HandSPX.excO C hp.objs.size) := by
    rw [← hA]
    heap_get
  have hq := q1 a (I1.hok.fresh hle)
  rw [List.append_nil] at hq
  have I2 : Inv X pins σ (upd H1 a (exo a C none)) ⟨(hp.push (PySem.W.kdv_tup us)).push (PySem.HandSPX.excO C hp.objs.size), g, dr, tk, os⟩ :=
    I1.laid (t' := tk) (h' := (hp.push (PySem.W.kdv_tup us)).push (PySem.HandSPX.excO C hp.objs.size)) kk hle (exo_ok hget)
  have r2 : Vals (V.ref a :: vs) (Value.ref a :: us) := .cons rfl r1
  have b2 := hb _ (Value.ref a :: us) I2.kIn (by rw [List.append_nil, ← r2.length, F1.len _ _ _ _ hq])
  rw [List.append_nil] at b2
  have hus : us.length ≤ sizeLine := by
    rw [← Paired.length r1, sizeLine_eq]
    omega
  refine wpAny_call (PySem.HandSPX.call_own F.excBase_ValueError (fun Y => PySem.HandSPX.refsVE_contains Y bm hbm) (I1.kIn _ _ hC) (PySem.W.looks_findIn I1.kIn iC) (fun self => PySem.W.bind_fn I1.kIn self tI) hus ?_)
  rw [hA]
  refine codeAny_mono (F1.run _ X.stack _ _ ⟨Value.ref a :: us, []⟩ _ _ _ (fun _ _ _ => False) (hr.make C us []) (I2.env0.make C us []) b2 r2 hq) fun r s' back => ?_
  cases r with
  | error er => exact hx pins σ _ _ er s' I2 back
  | ok fl =>
    cases fl with
    | next => exact back.elim
    | brk => exact back.elim
    | cont => exact back.elim
    | ret u =>
      obtain ⟨v, H2, os2, bare2, un2, hok2, rv, ev, d, fs, ea, ed, hd1, q2⟩ := back
      subst ev
      obtain ⟨h2, g2, d2, t2, os'⟩ := s'
      obtain ⟨t0, G, J, kG, ge, hoe, na⟩ := mk_end0 (d2 := d2) (t2 := t2) I1 hle kk un2 hok2 os2 bare2 ea ed hd1
      exact ⟨rv, a, _, _, ⟨G, g2, d2, t2, os'⟩, _, .ref C, some d, rfl, J, kG, ge, hoe, ⟨rfl, rfl, fun vs hv => by cases hv; rfl⟩, rfl, rfl, na, rfl, bare2, raises_own T.exC T.tyC, q2⟩
theorem ps_rz {sp : Sp} (R : Rz X.prog X.w X.K X.mg X.base x C ps sp) (hr : Room 2 X.A) (hc : X.calm = true) (tk : L2N.Takes X W) (gl : Gl X x) (ha : PA X (e :: es) ta) (hdb : (x == ("__debug__" : Str)) = false := by decide)
    (he : starEach (e :: es) X.env = (false, eval e X.env) :: starEach es X.env := by rfl) (hpl : (backTo pos (starEach es X.env)).any (·.1) = false := by rfl) :
    PS X (.Raise (some (.Call (.Name x p) (e :: es) [] pos)) none pos2) (fun _ σ H => tMkO C sp [] ta σ H fun cls d H' => W cls d σ H') := by
  obtain ⟨fI, fd, iC, tI, F1, b⟩ := R.ex
  exact L2N.ps_raise hc tk (pmk_N (p := p) (pos := pos) R.T iC tI F1 hr b passF gl R.m ha hdb he hpl)
end
section
variable {C : Ct} {ρ : List Kd} {ta : TA} {D : Addr} {f1 f2 : Str} {d1 d2 : PyData} {P : Po} {σ : L2.St} {H H' H1 : Hp} {v : V} {d : PyData}
/-- data without lists stands in what a caller sees -/
theorem fsh_nl (n : nl d = true) (ok : C.Ok) (h : Dp C.K (msk C ρ H) v d) : Dp C.K (fsh C.H0 C.F H) v d := Dp.tx (fun a o q nL => by
  obtain ⟨h1, h2, h3, _⟩ := msk_of q
  exact fsh_mk h1 h3 fun z => nL (by
    rw [h1] at z
    exact z.2)) n h
theorem b_rz2 (h : A1 C ta ρ [.dat d1, .dat d2]) (n1 : nl d1 = true) (n2 : nl d2 = true) (z : C.Z (.ref D) [(f2, d2), (f1, d1)]) : BS C (fun _ σ H => tMkO D (spI2 D f1 f2) [] ta σ H fun cls d H' => C.E cls d H') ρ P := fun σ H r _ _ => h σ H r _ fun ks vs H1 s1 r1 o1 => by
  subst s1
  obtain ⟨v1, v2, rfl, o1, o2⟩ := o1.two
  refine ⟨show 2 ≤ 1000 by decide, fun a ha => ⟨a, v1, v2, rfl, upd_same, fun d hd na => ⟨rfl, d, [(f2, v2), (f1, v1)], ?_, upd_same, ?_, ?_⟩⟩⟩
  · rw [upd_ne (Ne.symm na), upd_same]
  · rw [upd_ne na] at hd
    exact hd
  have hd1 : H1 d = none := by
    rw [upd_ne na] at hd
    exact hd
  rw [fin_eq hd1 ha na _ fun b hba hbd => by rw [upd_ne hbd, upd_ne hba, upd_ne hbd, upd_ne hba]]
  have rp := r.up r1
  have q := R.new (o := .xd [(f2, v2), (f1, v1)]) rp.ok rp.j hd1
  have r2 := rp.up q
  have m := msk_up (ρ := ρ) q
  refine rp.ok.hE _ _ d _ _ z ⟨r2.j, r2.old⟩ (rp.h0 hd1) upd_same ⟨rfl, ?_, rfl, ?_, trivial⟩
  · exact fsh_nl n2 rp.ok (Dp.ex m o2)
  · exact fsh_nl n1 rp.ok (Dp.ex m o1)
theorem b_rz1 (h : A1 C ta ρ [.dat d1]) (n1 : nl d1 = true) (z : C.Z (.ref D) [(f1, d1)]) : BS C (fun _ σ H => tMkO D (spI1 D f1) [] ta σ H fun cls d H' => C.E cls d H') ρ P := fun σ H r _ _ => h σ H r _ fun ks vs H1 s1 r1 o1 => by
  subst s1
  obtain ⟨v1, rfl, q1⟩ := o1.one
  refine ⟨show 1 ≤ 1000 by decide, fun a ha => ⟨a, v1, rfl, upd_same, fun d hd na => ⟨rfl, d, [(f1, v1)], upd_same, ?_, ?_, ?_⟩⟩⟩
  · rw [upd_ne na, upd_same]
  · rw [upd_ne na] at hd
    exact hd
  have hd1 : H1 d = none := by
    rw [upd_ne na] at hd
    exact hd
  rw [fin_eq hd1 ha na _ fun b hba hbd => by rw [upd_ne hba, upd_ne hbd, upd_ne hba]]
  have rp := r.up r1
  have q := R.new (o := .xd [(f1, v1)]) rp.ok rp.j hd1
  have r2 := rp.up q
  have m := msk_up (ρ := ρ) q
  refine rp.ok.hE _ _ d _ _ z ⟨r2.j, r2.old⟩ (rp.h0 hd1) upd_same ⟨rfl, ?_, trivial⟩
  exact fsh_nl n1 rp.ok (Dp.ex m q1)

/-! ### a def that may raise, called -/
theorem FsOk.ex {K : PySem.W.Frag} {M M' : Hp} (e : Ext M M') : ∀ {fv : List (Str × V)} {fs : List (Str × PyData)}, FsOk K M fv fs → FsOk K M' fv fs
  | [], [], _ => trivial
  | (_, _) :: _, (_, _) :: _, ⟨h1, h2, h3⟩ => ⟨h1, Dp.ex e h2, FsOk.ex e h3⟩
  | [], _ :: _, h => h.elim
  | _ :: _, [], h => h.elim
theorem call_R {fr : Bool} {F : Addr → Prop} {J : Hp → Prop} {E : XK} {Z : Zt} (rp : Rep C σ H1 ρ) (w : SubW C F J) (q : R ⟨C.K, F, J, H1, fr, [], E, Z⟩ H1 H') : R C H1 H' := by
  obtain ⟨j, kp⟩ := q
  have kp : ∀ a o, H1 a = some o → ¬ F a → H' a = some o := kp
  rcases w with ⟨rfl, rfl⟩ | ⟨rfl, rfl⟩
  · exact ⟨j, kp⟩
  · refine ⟨rp.ok.st _ _ rp.j fun a f => ?_, fun a o h _ => kp a o h id⟩
    obtain ⟨xs, e⟩ := rp.ok.ls _ _ rp.j f
    rw [e, kp a _ e id]
theorem fsh_call {F : Addr → Prop} (rp : Rep C σ H1 ρ) (r1 : R C H1 H') : Ext (fsh H1 F H') (fsh C.H0 C.F H') := fun a o q => by
  obtain ⟨h1, h2, h3⟩ := fsh_of q
  refine fsh_mk h1 (fun f => ?_) fun z => h3 ⟨?_, z.2⟩
  · obtain ⟨ws, g2⟩ := rp.ok.ls _ _ r1.1 f
    obtain ⟨ws1, g1⟩ := rp.ok.ls _ _ rp.j f
    exact h3 ⟨by rw [g1]; exact Option.some_ne_none _, by rw [g2]; trivial⟩
  · intro n
    exact z.1 (rp.h0 n)
theorem e_callZ {sp : Sp} {F : Addr → Prop} {J : Hp → Prop} {fr : Bool} {A : At} {PA : List Kd → Prop} {S : Kd → Prop} (ha : EA C ta ρ PA) (w : SubW C F J) (hm : ∀ vs H Q, SpF C.K F J fr A vs H Q C.E → sp vs H Q C.E)
    (hA : ∀ ks, PA ks → ∃ ks' S' Z', ArgsK fr ks ks' ∧ A ks' S' Z' ∧ (∀ cls fs, Z' cls fs → C.Z cls fs) ∧ ∀ k, S' k → S k) : EB C (tCall sp [] C.E ta) ρ S := fun σ H rp Q q => ha σ H rp _ fun ks vs H1 s1 r1 o1 => by
  obtain ⟨ks', S', Z', h1, h2, hz, h3⟩ := hA ks s1
  have no := args_own h1
  have rp1 := rp.up r1
  obtain ⟨g1, g2⟩ := args_ok (E := C.E) (Z := Z') (ρ' := ks') rp r1 w no o1 h1
  refine hm _ _ _ ⟨ks', S', Z', h2, ⟨⟨fun H H' j a => ?_, fun H a j f => ?_, ?_, fun cls fs d H' fv z rr h0 hx fo => ?_⟩, ?_, fun a o h _ => h, by rw [List.length_map, List.append_nil]; exact g1, fun a b l ds es ha => (no l ⟨a, ds, ha⟩).elim, fun l o => (no l o).elim, by rw [List.append_nil]; exact g2, fun p hp => by cases hp⟩, fun k v H' s2 ro => ?_⟩
  · rcases w with ⟨rfl, rfl⟩ | ⟨rfl, rfl⟩
    · exact rp.ok.st H H' j a
    · trivial
  · rcases w with ⟨rfl, rfl⟩ | ⟨rfl, rfl⟩
    · exact rp.ok.ls H a j f
    · exact False.elim f
  · rcases w with ⟨rfl, rfl⟩ | ⟨rfl, rfl⟩
    · exact rp1.j
    · trivial
  · have r2 := call_R rp1 w rr
    have rp2 := rp1.up r2
    exact rp.ok.hE cls fs d H' fv (hz _ _ z) ⟨rp2.j, rp2.old⟩ (rp1.h0 h0) hx (FsOk.ex (fsh_call rp1 r2) fo)
  · rcases w with ⟨rfl, rfl⟩ | ⟨rfl, rfl⟩
    · exact rp1.j
    · trivial
  · obtain ⟨r2, o2⟩ := call_back rp1 w ro
    exact q k v H' (h3 k s2) (r1.trans r2) (o2.back rp.ok r1)
/-- a pure def that may raise, called in a def that may raise just so -/
theorem e_callPZ {A : At} {ks ks' : List Kd} {S' S : Kd → Prop} {Z' : Zt} (ha : A1 C ta ρ ks) (hk : ArgsK false ks ks') (hA : A ks' S' Z') (hz : ∀ cls fs, Z' cls fs → C.Z cls fs) (hS : ∀ k, S' k → S k) : EB C (tCall (SpP C.K A) [] C.E ta) ρ S :=
  e_callZ ha (.inr ⟨rfl, rfl⟩) (fun _ _ _ h => h) fun ks2 e => by
    subst e
    exact ⟨ks', S', Z', hk, hA, hz, hS⟩
end
end Mh
namespace Mh
open PySem PySem.Spec PyProof.Rows L2 TL
/-! ### value texts read, of any text: InvalidText with a place where it does not read -/
def badZ (D : Addr) (z : Str) : Zt := fun cls fs => cls = .ref D ∧ ∃ q : Nat, q ≤ z.length ∧ fs = [(("at" : Str), PyData.int (q : Int)), (("text" : Str), PyData.str z)]
def tRz (D : Addr) (ta : TA) (E : XK) : TS := fun _ σ H => tMkO D (spI2 D "text" "at") [] ta σ H fun cls d H' => E cls d H'
def A_strX (D : Addr) : At := fun ks S Z => ∃ (z : Str) (p : Nat), ks = [.dat (.str z), .dat (.int p)] ∧ p ≤ z.length ∧ z.length ≤ sizeLine ∧
  S = (fun k => ∃ w r, (tl z).drop p = w ++ 34 :: r ∧ w.all ltr = true ∧ k = .dat (.tuple [.str ⟨w.toArray⟩, .int ((p + w.length + 1 : Nat) : Int)])) ∧
  Z = (fun cls fs => (¬ ∃ w r, (tl z).drop p = w ++ 34 :: r ∧ w.all ltr = true) ∧ badZ D z cls fs)
def sp_string_atX (K : PySem.W.Frag) (D : Addr) : Sp := SpP K (A_strX D)
def A_numX (D : Addr) : At := fun ks S Z => ∃ (z : Str) (p : Nat), ks = [.dat (.str z), .dat (.int p)] ∧ p ≤ z.length ∧ z.length ≤ sizeLine ∧
  S = (fun k => ∃ n r, (tl z).drop p = numL n ++ r ∧ n < 10 ^ 40 ∧ (∀ c, r.head? = some c → fig c = false) ∧ k = .dat (.tuple [.int (n : Int), .int ((p + (numL n).length : Nat) : Int)])) ∧
  Z = (fun cls fs => (¬ ∃ n r, (tl z).drop p = numL n ++ r ∧ n < 10 ^ 40 ∧ (∀ c, r.head? = some c → fig c = false)) ∧ badZ D z cls fs)
def sp_number_atX (K : PySem.W.Frag) (D : Addr) : Sp := SpP K (A_numX D)
def A_atomX (D : Addr) : At := fun ks S Z => ∃ (z : Str) (p : Nat), ks = [.dat (.str z), .dat (.int p)] ∧ p ≤ z.length ∧ z.length ≤ sizeLine ∧
  S = (fun k => ∃ v r, Atm ((tl z).drop p) v r ∧ k = .dat (.tuple [v, .int ((z.length - r.length : Nat) : Int)])) ∧
  Z = (fun cls fs => (¬ ∃ v r, Atm ((tl z).drop p) v r) ∧ badZ D z cls fs)
def sp_atom_atX (K : PySem.W.Frag) (D : Addr) : Sp := SpP K (A_atomX D)
def A_valX (D : Addr) : At := fun ks S Z => ∃ z : Str, ks = [.dat (.str z)] ∧ z.length < sizeLine ∧
  S = (fun k => ∃ d, Par [] (tl z) d ∧ k = .dat d) ∧ Z = (fun cls fs => (¬ ∃ d, Par [] (tl z) d) ∧ badZ D z cls fs)
def sp_value_ofX (K : PySem.W.Frag) (D : Addr) : Sp := SpP K (A_valX D)
def sp_untoldX (K : PySem.W.Frag) (D : Addr) : Sp := SpP K (A_valX D)
def t_string_atX (K : PySem.W.Frag) (D : Addr) (E : XK) : TS := (tSeq (tAsg (tVar 1) (gName 2))
  (tSeq (tWhile (tTru K (tCall (sp_is_letter K) [] E0 (tCons (tSl (rSlP K) (tVar 0) (tPart (tVar 2)) (tPart (tOp (rAddP K) (tVar 2) (tC (.int 1))))) tNil))) (tAug 2 (tC (.int 1)) (ipI fun i j => i + j)))
  (tSeq (tIfS (tTest (tOp (rNeP K) (tSl (rSlP K) (tVar 0) (tPart (tVar 2)) (tPart (tOp (rAddP K) (tVar 2) (tC (.int 1))))) (tC (.str "\"")))) (tRz D (tCons (tVar 0) (tCons (tVar 2) tNil)) E) tNext)
  (tRet (tTup (tCons (tSl (rSlP K) (tVar 0) (tPart (tVar 1)) (tPart (tVar 2))) (tCons (tOp (rAddP K) (tVar 2) (tC (.int 1))) tNil)))))))
def t_number_atX (K : PySem.W.Frag) (D : Addr) (E : XK) : TS := (tSeq (tAsg (tCall (sp_figures_end K) [] E0 (tCons (tVar 0) (tCons (tVar 1) tNil))) (gName 2))
  (tSeq (tAsg (tCall (sp_number_of K) [] E0 (tCons (tSl (rSlP K) (tVar 0) (tPart (tVar 1)) (tPart (tVar 2))) (tCons (tC (.int 40)) tNil))) (gName 3))
  (tSeq (tIfS (tTest (tOp rIsN (tVar 3) (tC .non))) (tRz D (tCons (tVar 0) (tCons (tVar 1) tNil)) E) tNext)
  (tRet (tTup (tCons (tVar 3) (tCons (tVar 2) tNil)))))))
def t_atom_atX (K : PySem.W.Frag) (D : Addr) (E : XK) : TS := (tSeq (tAsg (tSl (rSlP K) (tVar 0) (tPart (tVar 1)) (tPart (tOp (rAddP K) (tVar 1) (tC (.int 1))))) (gName 2))
  (tSeq (tIfS (tTest (tOp (rEqP K) (tVar 2) (tC (.str "-")))) (tRet (tTup (tCons (tC .non) (tCons (tOp (rAddP K) (tVar 1) (tC (.int 1))) tNil)))) tNext)
  (tSeq (tIfS (tTest (tOp (rEqP K) (tVar 2) (tC (.str "\"")))) (tRet (tCall (sp_string_atX K D) [] E (tCons (tVar 0) (tCons (tOp (rAddP K) (tVar 1) (tC (.int 1))) tNil)))) tNext)
  (tSeq (tIfS (tTru K (tCall (sp_is_figure K) [] E0 (tCons (tVar 2) tNil))) (tRet (tCall (sp_number_atX K D) [] E (tCons (tVar 0) (tCons (tVar 1) tNil)))) tNext)
  (tRz D (tCons (tVar 0) (tCons (tVar 1) tNil)) E)))))
section
variable {K : PySem.W.Frag} {D : Addr} {vs : List V} {H : Hp} {Q : VK} {E : XK}
theorem sp_bodyE {t : XK → TS} {F : Addr → Prop} {J : Hp → Prop} {fr : Bool} {A : At} {N : List Str}
    (h : ∀ H ks S Z, A ks S Z → ∀ n, ks.length + n = N.length ∨ N.length ≤ ks.length → BS ⟨K, F, J, H, fr, [], E, Z⟩ (t E) (ks ++ List.replicate (N.length - ks.length) .un) { rt := S, nx := fun _ => S (.dat .none) }) (q : SpF K F J fr A vs H Q E) :
    t E { nx := fun _ H' => Q .non H', rt := Q } (L2.start N vs) H := by
  obtain ⟨ks, S, Z, a, r, f⟩ := q
  have hl : vs.length = ks.length := by
    have := r.len
    rw [List.length_map] at this
    exact this
  have r2 := r.more (N.length - ks.length)
  have e : L2.start N vs = vs.map some ++ List.replicate (N.length - ks.length) none := by
    unfold L2.start
    rw [hl]
  rw [e]
  refine h H ks S Z a (N.length - ks.length) (by omega) _ H r2 _ ⟨fun ρ σ H' z r' => ?_, fun k v H' z r' => f k v H' z r', fun _ _ _ z => False.elim z, fun _ _ _ z => False.elim z⟩
  exact f _ _ _ z ⟨⟨r'.j, r'.old⟩, .non⟩
theorem go_string_atX (h : sp_string_atX K D vs H Q E) : t_string_atX K D E { nx := fun _ H' => Q .non H', rt := Q } (L2.start ["text", "at", "end"] vs) H := by
  refine sp_bodyE (t := t_string_atX K D) ?_ h
  rintro H ks S Z ⟨z, p, rfl, hp, hz, rfl, rfl⟩ n _
  change BS _ _ [.dat (.str z), .dat (.int p), .un] _
  generalize hZ : (fun (cls : Value) (fs : List (Str × PyData)) => (¬ ∃ w r, (tl z).drop p = w ++ 34 :: r ∧ w.all ltr = true) ∧ badZ D z cls fs) = Z
  have hle := tw_len (p := ltr) hp
  have hsi := str_iff ((tl z).drop p)
  have hgt : ((tl z).drop p)[(tw ltr z p).length]? = (tl z)[p + (tw ltr z p).length]? := by rw [List.getElem?_drop]
  refine b_signs (C := ⟨K, noF, noJ, H, false, [], E, Z⟩) rfl hz hp ?_
  have t1 : T1 ⟨K, noF, noJ, H, false, [], E, Z⟩ (tTest (tOp (rNeP K) (tSl (rSlP K) (tVar 0) (tPart (tVar 2)) (tPart (tOp (rAddP K) (tVar 2) (tC (.int 1))))) (tC (.str "\"")))) [.dat (.str z), .dat (.int (p : Int)), .dat (.int ((p + (tw ltr z p).length : Nat) : Int))] (!decide ((tl z)[p + (tw ltr z p).length]? = some 34)) :=
    t_test ((e_op1 (C := ⟨K, noF, noJ, H, false, [], E, Z⟩) (e_sign (p := p + (tw ltr z p).length) rfl rfl hz) e_str k_ne_s).is (by rw [sgeq _ quo]))
  refine q_when t1 (fun hb => ?_) (fun hb => ?_)
  · have hb2 : (tl z)[p + (tw ltr z p).length]? ≠ some 34 := by simpa using hb.symm
    refine b_rz2 (C := ⟨K, noF, noJ, H, false, [], E, Z⟩) (a_cons (e_var rfl) (a_cons (e_var rfl) a_nil)) rfl rfl ?_
    rw [← hZ]
    refine ⟨fun h => hb2 ?_, rfl, p + (tw ltr z p).length, hle, rfl⟩
    rw [← hgt]
    exact hsi.mp h
  · have hb2 : (tl z)[p + (tw ltr z p).length]? = some 34 := by simpa using hb.symm
    obtain ⟨w, r, hd, hw⟩ := hsi.mpr (by rw [← hb2, ← hgt]; rfl)
    have htw : tw ltr z p = w := by
      unfold tw
      rw [hd]
      exact tw_stop hw rfl
    have hlen := len_drop hd hp
    rw [List.length_cons] at hlen
    rw [htw]
    refine b_ret ((e_tup (C := ⟨K, noF, noJ, H, false, [], E, Z⟩) (a_cons (e_slS (C := ⟨K, noF, noJ, H, false, [], E, Z⟩) (e_var rfl) (o_some (e_var rfl)) (o_some (e_var rfl)) hz) (a_cons (e_op1 (C := ⟨K, noF, noJ, H, false, [], E, Z⟩) (e_var rfl) e_int k_add_i) a_nil)) rfl).is ?_) rfl ⟨w, r, hd, hw, rfl⟩
    rw [cut_sub (Nat.le_add_right _ _) (by omega), hd, Nat.add_sub_cancel_left, List.take_left]
    rfl
theorem go_number_atX (h : sp_number_atX K D vs H Q E) : t_number_atX K D E { nx := fun _ H' => Q .non H', rt := Q } (L2.start ["text", "at", "end", "number"] vs) H := by
  refine sp_bodyE (t := t_number_atX K D) ?_ h
  rintro H ks S Z ⟨z, p, rfl, hp, hz, rfl, rfl⟩ n _
  change BS _ _ [.dat (.str z), .dat (.int p), .un, .un] _
  generalize hZ : (fun (cls : Value) (fs : List (Str × PyData)) => (¬ ∃ n r, (tl z).drop p = numL n ++ r ∧ n < 10 ^ 40 ∧ (∀ c, r.head? = some c → fig c = false)) ∧ badZ D z cls fs) = Z
  have hle := tw_len (p := fig) hp
  have hni := num_iff ((tl z).drop p)
  refine q_asg (C := ⟨K, noF, noJ, H, false, [], E, Z⟩) (e_callP (C := ⟨K, noF, noJ, H, false, [], E, Z⟩) (ks' := [.dat (.str z), .dat (.int p)]) (a_cons (e_var rfl) (a_cons (e_var rfl) a_nil)) (.cons (.dat fun h => by cases h) (.cons (.dat fun h => by cases h) .nil)) ⟨z, p, rfl, hp, hz, rfl, rfl⟩ fun k h => h) ?_
  have cut : cutS z (some (p : Int)) (some ((p + (tw fig z p).length : Nat) : Int)) = ⟨(((tl z).drop p).takeWhile fig).toArray⟩ := by
    rw [cut_sub (Nat.le_add_right _ _) hle, Nat.add_sub_cancel_left]
    exact congrArg (fun l : List Nat => (⟨l.toArray⟩ : Str)) (take_tw _)
  have hcl : (⟨(((tl z).drop p).takeWhile fig).toArray⟩ : Str).length ≤ sizeLine := by
    rw [len_tl]
    exact Nat.le_trans (show (tw fig z p).length ≤ z.length by omega) hz
  have e2 : E1 ⟨K, noF, noJ, H, false, [], E, Z⟩ (tCall (sp_number_of K) [] E0 (tCons (tSl (rSlP K) (tVar 0) (tPart (tVar 1)) (tPart (tVar 2))) (tCons (tC (.int 40)) tNil))) [.dat (.str z), .dat (.int p), .dat (.int ((p + (tw fig z p).length : Nat) : Int)), .un] (.dat (nmv ((tl z).drop p))) := by
    have e1 := e_slS (C := ⟨K, noF, noJ, H, false, [], E, Z⟩) (ρ := [.dat (.str z), .dat (.int p), .dat (.int ((p + (tw fig z p).length : Nat) : Int)), .un]) (z := z) (e_var (i := 0) rfl) (o_some (i := p) (e_var (i := 1) rfl)) (o_some (i := ((p + (tw fig z p).length : Nat) : Int)) (e_var (i := 2) rfl)) hz
    rw [cut] at e1
    exact e_callP (C := ⟨K, noF, noJ, H, false, [], E, Z⟩) (A := A_num) (S' := fun k => k = .dat (nmv ((tl z).drop p))) (ks' := [.dat (.str ⟨(((tl z).drop p).takeWhile fig).toArray⟩), .dat (.int 40)]) (a_cons e1 (a_cons e_int a_nil)) (.cons (.dat fun h => by cases h) (.cons (.dat fun h => by cases h) .nil)) ⟨_, 40, rfl, hcl, .inl (by decide), rfl, rfl⟩ fun k h => h
  refine q_asg e2 ?_
  refine q_when (T := fun b => b = isNon (nmv ((tl z).drop p))) (t_test (e_op1 (C := ⟨K, noF, noJ, H, false, [], E, Z⟩) (e_var rfl) e_non k_isN)) (fun hb => ?_) (fun hb => ?_)
  · refine b_rz2 (C := ⟨K, noF, noJ, H, false, [], E, Z⟩) (a_cons (e_var rfl) (a_cons (e_var rfl) a_nil)) rfl rfl ?_
    rw [← hZ]
    refine ⟨fun h => ?_, rfl, p, hp, rfl⟩
    have h2 := hni.mp h
    obtain ⟨n, h3, _⟩ := nmv_some h2
    rw [h3] at hb
    cases hb
  · have h2 : nmv ((tl z).drop p) ≠ .none := fun e => by
      rw [e] at hb
      cases hb
    obtain ⟨m, r, hd, hm, hr⟩ := hni.mpr h2
    have hfa : (numL m).all fig = true := List.all_eq_true.mpr fun c hc => by
      have := numL_digits m c hc
      simp [fig]
      exact this
    have htw : tw fig z p = numL m := by
      unfold tw
      rw [hd]
      exact tw_stop2 hfa hr
    have hv : nmv ((tl z).drop p) = .int (m : Int) := by rw [hd, nmv_of hm hr]
    rw [hv, htw]
    exact b_ret (e_tup (C := ⟨K, noF, noJ, H, false, [], E, Z⟩) (a_cons (e_var rfl) (a_cons (e_var rfl) a_nil)) rfl) rfl ⟨m, r, hd, hm, hr, rfl⟩
theorem atm_of {cs : List Nat} {v : PyData} {r : List Nat} (h : Atm cs v r) : (cs = 45 :: r ∧ v = .none) ∨ (∃ w, cs = 34 :: (w ++ 34 :: r) ∧ w.all ltr = true ∧ v = .str ⟨w.toArray⟩) ∨ (∃ n, cs = numL n ++ r ∧ n < 10 ^ 40 ∧ (∀ c, r.head? = some c → fig c = false) ∧ v = .int (n : Int)) := by
  cases h with
  | non => exact .inl ⟨rfl, rfl⟩
  | str hw => exact .inr (.inl ⟨_, rfl, hw, rfl⟩)
  | num hn hr => exact .inr (.inr ⟨_, rfl, hn, hr, rfl⟩)
theorem go_atom_atX (h : sp_atom_atX K D vs H Q E) : t_atom_atX K D E { nx := fun _ H' => Q .non H', rt := Q } (L2.start ["text", "at", "sign"] vs) H := by
  refine sp_bodyE (t := t_atom_atX K D) ?_ h
  rintro H ks S Z ⟨z, p, rfl, hp, hz, rfl, rfl⟩ n _
  change BS _ _ [.dat (.str z), .dat (.int p), .un] _
  generalize hZ : (fun (cls : Value) (fs : List (Str × PyData)) => (¬ ∃ v r, Atm ((tl z).drop p) v r) ∧ badZ D z cls fs) = Z
  refine q_asg (e_sign (C := ⟨K, noF, noJ, H, false, [], E, Z⟩) (p := p) rfl rfl hz) ?_
  have tq : ∀ (x : Str) (d : Nat), tl x = [d] → T1 ⟨K, noF, noJ, H, false, [], E, Z⟩ (tTest (tOp (rEqP K) (tVar 2) (tC (.str x)))) [.dat (.str z), .dat (.int p), .dat (.str (sg (tl z)[p]?))] (decide ((tl z)[p]? = some d)) := fun x d hx =>
    t_test ((e_op1 (C := ⟨K, noF, noJ, H, false, [], E, Z⟩) (e_var rfl) e_str k_eq_s).is (by rw [sgeq _ hx]))
  have front : ∀ c, (tl z)[p]? = some c → ∃ r, (tl z).drop p = c :: r ∧ (tl z).drop (p + 1) = r ∧ p < z.length := fun c hc => by
    obtain ⟨hl, hv⟩ := List.getElem?_eq_some_iff.mp hc
    exact ⟨(tl z).drop (p + 1), by rw [List.drop_eq_getElem_cons hl, hv], rfl, by rw [len_tl]; exact hl⟩
  refine q_when (tq "-" 45 minus) (fun hb => ?_) (fun hb1 => ?_)
  · obtain ⟨r, h1, h2, h3⟩ := front 45 (of_decide_eq_true hb.symm)
    have hlen := len_drop (w := [45]) (r := r) h1 hp
    simp at hlen
    refine b_ret (d := .tuple [.none, .int ((z.length - r.length : Nat) : Int)]) ((e_tup (C := ⟨K, noF, noJ, H, false, [], E, Z⟩) (a_cons e_non (a_cons (e_op1 (C := ⟨K, noF, noJ, H, false, [], E, Z⟩) (e_var rfl) e_int k_add_i) a_nil)) rfl).is ?_) rfl ⟨.none, r, by rw [h1]; exact .non, rfl⟩
    rw [show ((z.length - r.length : Nat) : Int) = (p : Int) + 1 by omega]
  have n45 := of_decide_eq_false hb1.symm
  refine q_when (tq "\"" 34 quo) (fun hb => ?_) (fun hb2 => ?_)
  · obtain ⟨r, h1, h2, h3⟩ := front 34 (of_decide_eq_true hb.symm)
    refine b_retS (e_callPZ (C := ⟨K, noF, noJ, H, false, [], E, Z⟩) (A := A_strX D) (ks' := [.dat (.str z), .dat (.int ((p + 1 : Nat) : Int))]) (S := fun k => ∃ w r, (tl z).drop (p + 1) = w ++ 34 :: r ∧ w.all ltr = true ∧ k = .dat (.tuple [.str ⟨w.toArray⟩, .int ((p + 1 + w.length + 1 : Nat) : Int)])) (a_cons (e_var rfl) (a_cons (e_op1 (C := ⟨K, noF, noJ, H, false, [], E, Z⟩) (e_var rfl) e_int k_add_i) a_nil)) (.cons (.dat fun h => by cases h) (.cons (.dat fun h => by cases h) .nil)) ⟨z, p + 1, rfl, h3, hz, rfl, rfl⟩ ?_ fun k h => h) ?_
    · rintro cls fs ⟨g1, g2⟩
      show Z cls fs
      rw [← hZ]
      refine ⟨?_, g2⟩
      rintro ⟨v, r', a⟩
      rcases atm_of a with ⟨e, _⟩ | ⟨w, e, hw, _⟩ | ⟨m, e, _, _, _⟩
      · rw [h1] at e
        injection e with e _
        cases e
      · rw [h1] at e
        injection e with _ e
        exact g1 ⟨w, r', by rw [h2]; exact e, hw⟩
      · obtain ⟨c, w, e2⟩ := List.exists_cons_of_ne_nil (numL_ne m)
        have := numL_digits m c (by rw [e2]; exact List.mem_cons_self)
        rw [h1, e2] at e
        injection e with e _
        omega
    · rintro _ ⟨w, r', g1, g2, rfl⟩
      rw [h2] at g1
      have hlen := len_drop (w := 34 :: w ++ [34]) (r := r') (by rw [h1, g1]; simp) hp
      simp at hlen
      refine ⟨.inr rfl, .str ⟨w.toArray⟩, r', by rw [h1, g1]; exact .str g2, ?_⟩
      rw [show z.length - r'.length = p + 1 + w.length + 1 by omega]
  have n34 := of_decide_eq_false hb2.symm
  refine q_when (T := fun b => b = ((tl z)[p]?).any fig) (t_tru (C := ⟨K, noF, noJ, H, false, [], E, Z⟩) (k := .dat (.bool (((tl z)[p]?).any fig))) (e_callP (C := ⟨K, noF, noJ, H, false, [], E, Z⟩) (ks' := [.dat (.str (sg (tl z)[p]?))]) (a_cons (e_var rfl) a_nil) (.cons (.dat fun h => by cases h) .nil) ⟨_, rfl, rfl, rfl⟩ fun k h => h) rfl) (fun hb => ?_) (fun hb3 => ?_)
  · refine b_retS (e_callPZ (C := ⟨K, noF, noJ, H, false, [], E, Z⟩) (A := A_numX D) (ks' := [.dat (.str z), .dat (.int p)]) (S := fun k => ∃ n r, (tl z).drop p = numL n ++ r ∧ n < 10 ^ 40 ∧ (∀ c, r.head? = some c → fig c = false) ∧ k = .dat (.tuple [.int (n : Int), .int ((p + (numL n).length : Nat) : Int)])) (a_cons (e_var rfl) (a_cons (e_var rfl) a_nil)) (.cons (.dat fun h => by cases h) (.cons (.dat fun h => by cases h) .nil)) ⟨z, p, rfl, hp, hz, rfl, rfl⟩ ?_ fun k h => h) ?_
    · rintro cls fs ⟨g1, g2⟩
      show Z cls fs
      rw [← hZ]
      refine ⟨?_, g2⟩
      rintro ⟨v, r', a⟩
      have hd : (tl z)[p]? = ((tl z).drop p).head? := by rw [List.head?_drop]
      rcases atm_of a with ⟨e, _⟩ | ⟨w, e, hw, _⟩ | ⟨m, e, h5, h6, _⟩
      · rw [e] at hd
        exact n45 hd
      · rw [e] at hd
        exact n34 hd
      · exact g1 ⟨m, r', e, h5, h6⟩
    · rintro _ ⟨m, r', g1, g2, g3, rfl⟩
      have hlen := len_drop g1 hp
      refine ⟨.inr rfl, .int (m : Int), r', by rw [g1]; exact .num g2 g3, ?_⟩
      rw [show z.length - r'.length = p + (numL m).length by omega]
  refine b_rz2 (C := ⟨K, noF, noJ, H, false, [], E, Z⟩) (a_cons (e_var rfl) (a_cons (e_var rfl) a_nil)) rfl rfl ?_
  rw [← hZ]
  refine ⟨?_, rfl, p, hp, rfl⟩
  rintro ⟨v, r', a⟩
  have hd : (tl z)[p]? = ((tl z).drop p).head? := by rw [List.head?_drop]
  rcases atm_of a with ⟨e, _⟩ | ⟨w, e, hw, _⟩ | ⟨m, e, h5, h6, _⟩
  · rw [e] at hd
    exact n45 hd
  · rw [e] at hd
    exact n34 hd
  · obtain ⟨c, w, e2⟩ := List.exists_cons_of_ne_nil (numL_ne m)
    have := numL_digits m c (by rw [e2]; exact List.mem_cons_self)
    rw [e, e2] at hd
    rw [hd] at hb3
    have hf : fig c = true := by
      simp [fig]
      exact this
    simp [hf] at hb3
end
end Mh
namespace Mh
open PySem PySem.Spec PyProof.Rows L2 TL HotX
/-! ### while an exception is handled: iterators that come to their end -/
section
variable {prog : Program} {w : World} {A : Around} {E : Value → Shared → Prop} {s : Shared} {x1 : Addr}
def Held (h h' : Heap) : Prop := ∀ b o, h.get? b = some o → h'.get? b = some o
theorem hot_held {h h' : Heap} (c : HotAt A x1 h) (k : Held h h') : HotAt A x1 h' := by
  obtain ⟨c1, o, vs, c2, c3⟩ := c
  exact ⟨c1, o, vs, k _ _ c2, c3⟩
/-- the iterator's StopIteration, raised beside the handled exception -/
theorem stop_hot {α : Type} {Q : α → Shared → Prop} (hot : HotAt A x1 s.heap)
    (k : ∀ (e : Addr) (h' : Heap), Held s.heap h' → (∃ oe, h'.get? e = some oe ∧ oe.cls = .type "StopIteration") → E (.ref e) { s with heap := h' }) :
    wpAny (model prog w) A (newExc (.type "StopIteration") [] >>= fun e => (raiseNew e : Sem α)) Q E s := by
  refine wpAny_bind ?_
  simp only [newExc, newTuple]
  refine wpAny_bind (wpAny_newObj_type (wpAny_bind (m := firstArgMember _ _) (wpAny_of_eq (a := Value.none) (by first | rfl | (simp only [firstArgMember]; rfl)) (wpAny_newObj_type ?_ (by size_fits)))) (by size_fits))
  have up1 : ∀ {o1 : Obj}, Held s.heap (s.heap.push o1) := fun b o e => Heap.get?_push_of_some _ e
  have up : ∀ {o1 o2 : Obj}, Held s.heap ((s.heap.push o1).push o2) := fun b o e => Heap.get?_push_of_some _ (up1 b o e)
  have lt : ∀ {o1 : Obj}, x1 < (s.heap.push o1).objs.size := fun {o1} => by
    obtain ⟨_, ob, vs, c1, _⟩ := hot_held hot (up1 (o1 := o1))
    exact Heap.lt_size c1
  refine raiseNew_hot (hot_held hot up) (Nat.ne_of_lt lt) (Heap.get?_push_size _ rfl) rfl (by first | (simp; done) | (simp; omega) | (simp only [Array.size_append]; simp; omega)) (k _ _ (fun b o e => ?_) ⟨_, Heap.get?_update_self _ (Heap.get?_push_size _ rfl) rfl, rfl⟩)
  rw [Heap.get?_update_other _ _ (Nat.ne_of_gt (Heap.lt_size (Heap.get?_push_of_some _ e)))]
  exact up b o e
/-- the same below a change of one object -/
theorem stop_but {α : Type} {Q : α → Shared → Prop} {it : Addr} {h' : Heap} (hot : HotAt A x1 s.heap) (hne : x1 ≠ it) (sb : Heap.SameBut it s.heap h')
    (k : ∀ (e : Addr) (h2 : Heap), (∀ b o, b ≠ it → s.heap.get? b = some o → h2.get? b = some o) → (∃ oe, h2.get? e = some oe ∧ oe.cls = .type "StopIteration") → E (.ref e) { s with heap := h2 }) :
    wpAny (model prog w) A (newExc (.type "StopIteration") [] >>= fun e => (raiseNew e : Sem α)) Q E { s with heap := h' } := by
  obtain ⟨c0, ob, vs, c1, c2⟩ := hot
  exact stop_hot (s := { s with heap := h' }) (x1 := x1) ⟨c0, ob, vs, (sb.2 _ hne).trans c1, c2⟩ fun e h2 up he => k e h2 (fun b o hb q => up _ _ ((sb.2 b hb).trans q)) he
theorem seen_stop {it e : Addr} {h2 : Heap} {Q : Option Value → Shared → Prop} (hQ : ∀ h', (∀ b o, b ≠ it → s.heap.get? b = some o → h'.get? b = some o) → Q none { s with heap := h' })
    (up : ∀ b o, b ≠ it → s.heap.get? b = some o → h2.get? b = some o) (he : ∃ oe, h2.get? e = some oe ∧ oe.cls = .type "StopIteration") :
    wpAny (model prog w) A (isInstance (.ref e) (.type "StopIteration") >>= fun b => if b = true then pure (none : Option Value) else throw (.ref e)) Q E { s with heap := h2 } :=
  wpAny_bind (wpAny_isInstance (T := "StopIteration") (b := true) he isSubtype_stop (wpAny_pure (hQ _ up)))
/-- an iterator over a text, at its end -/
theorem str_stop {it : Addr} {x : Str} {t : Tok} {i : Nat} {ty : String} {Q : Option Value → Shared → Prop} (hot : HotAt A x1 s.heap) (hne : x1 ≠ it) (hty : ty = "str_ascii_iterator" ∨ ty = "str_iterator") (hit : s.heap.IsStrIter it ty x t i) (hx : x.cps[i]? = none)
    (hQ : ∀ h', (∀ b o, b ≠ it → s.heap.get? b = some o → h'.get? b = some o) → Q none { s with heap := h' }) : wpAny (model prog w) A (pyNext (.ref it)) Q E s := by
  have hot' : HotAt A.in1 x1 s.heap := hot
  obtain ⟨o, ho, hc, hd⟩ := id hit
  unfold pyNext
  rcases hty with rfl | rfl
  · refine wpAny_bind (wpAny_attempt (wpAny_callSpecial?_slot hit.typeIs F.slot_str_ascii_iterator_next (wpAny_call_entry F.slot_str_ascii_iterator_next hit.typeIs F.entry_str_ascii_iterator_next ?_ (F.args_str_ascii_iterator_next_1 _))))
    show wpAny _ _ (field (.ref it) 0 >>= _) _ _ s
    refine wpAny_bind (wpAny_field ho hd (x := .str x t) rfl ?_)
    show wpAny _ _ (field (.ref it) 1 >>= _) _ _ s
    refine wpAny_bind (wpAny_field ho hd (x := .int i 0) rfl ?_)
    simp only [Int.toNat_natCast, hx]
    refine wpAny_bind (wpAny_rule (wpAny_bind (wpAny_setField ho hd (by simp) (wpAny_bind (wpAny_letGo ?_)))))
    exact stop_but hot' hne (Heap.SameBut.update ..) fun e h2 up he => seen_stop hQ up he
  · refine wpAny_bind (wpAny_attempt (wpAny_callSpecial?_slot hit.typeIs F.slot_str_iterator_next (wpAny_call_entry F.slot_str_iterator_next hit.typeIs F.entry_str_iterator_next ?_ (F.args_str_iterator_next_1 _))))
    show wpAny _ _ (field (.ref it) 0 >>= _) _ _ s
    refine wpAny_bind (wpAny_field ho hd (x := .str x t) rfl ?_)
    show wpAny _ _ (field (.ref it) 1 >>= _) _ _ s
    refine wpAny_bind (wpAny_field ho hd (x := .int i 0) rfl ?_)
    simp only [Int.toNat_natCast, hx]
    refine wpAny_bind (wpAny_rule (wpAny_bind (wpAny_setField ho hd (by simp) (wpAny_bind (wpAny_letGo ?_)))))
    exact stop_but hot' hne (Heap.SameBut.update ..) fun e h2 up he => seen_stop hQ up he
/-- an iterator over a tuple, at its end -/
theorem tup_stop {it t : Addr} {i : Nat} {items : Array Value} {Q : Option Value → Shared → Prop} (hot : HotAt A x1 s.heap) (hne : x1 ≠ it) (hit : s.heap.IsTupleIter it t i) (ht : s.heap.IsTuple t items) (hx : items[i]? = none)
    (hQ : ∀ h', (∀ b o, b ≠ it → s.heap.get? b = some o → h'.get? b = some o) → Q none { s with heap := h' }) : wpAny (model prog w) A (pyNext (.ref it)) Q E s := by
  have hot' : HotAt A.in1 x1 s.heap := hot
  obtain ⟨o, ho, hc, hd⟩ := id hit
  obtain ⟨ol, hol, _, nl, hdl⟩ := ht
  unfold pyNext
  refine wpAny_bind (wpAny_attempt (wpAny_callSpecial?_slot hit.typeIs F.slot_tuple_iterator_next (wpAny_call_entry F.slot_tuple_iterator_next hit.typeIs F.entry_tuple_iterator_next ?_ (F.args_tuple_iterator_next_1 _))))
  show wpAny _ _ (field (.ref it) 0 >>= _) _ _ s
  refine wpAny_bind (wpAny_field ho hd (x := .ref t) rfl ?_)
  show wpAny _ _ (if (Value.ref t == Value.none) = true then _ else _) _ _ s
  rw [if_neg (show ¬ ((Value.ref t == Value.none) = true) from Bool.false_ne_true)]
  show wpAny _ _ (field (.ref it) 1 >>= _) _ _ s
  refine wpAny_bind (wpAny_field ho hd (x := .int i 0) rfl ?_)
  show wpAny _ _ (seqItems? (.ref t) >>= _) _ _ s
  refine wpAny_bind (wpAny_seqItems hol hdl ?_)
  simp only [Int.toNat_natCast, hx]
  refine wpAny_bind (wpAny_rule (wpAny_bind (wpAny_setField ho hd (by simp) ?_)))
  exact stop_but hot' hne (Heap.SameBut.update ..) fun e h2 up he => seen_stop hQ up he
/-- the walk over a tuple with the handled exception beside it -/
theorem tup_walk {I ax x1 : Addr} {o1 : Obj} {vs1 : Array Value} (hh : A.handled = some (.ref x1)) (d1 : o1.data = .fields vs1) (c1 : vs1[2]? = some .none) (hI : x1 ≠ I) (hne : ax ≠ I) (items : Array Value) :
    Walks prog w A I [I, ax, x1] [I] items.size (fun i v => items[i]? = some v) (fun i h => (h.IsTupleIter I ax i ∧ h.IsTuple ax items) ∧ h.get? x1 = some o1) where
  sub := fun b hb => by
    rw [List.mem_singleton] at hb
    rw [hb]
    exact List.mem_cons_self
  frame := fun _ _ _ st hk => ⟨⟨st.1.1.at fun o e => hk I (by simp) o e, st.1.2.at fun o e => hk ax (by simp) o e⟩, hk x1 (by simp) _ st.2⟩
  item := fun i s Q E hi st hQ => by
    refine wpAny_pyNext_tuple_item st.1.1 st.1.2 (x := items[i]) (by simp [hi]) fun h' hit' hs' => ?_
    exact hQ _ h' s.toks (by simp [hi]) ⟨⟨hit', st.1.2.extBut hs'.extBut hne⟩, (hs'.2 _ hI).trans st.2⟩ fun b o hb e => (hs'.2 b fun h => hb (by simp [h])).trans e
  done := fun s Q E st hQ => tup_stop ⟨hh, o1, vs1, st.2, d1, c1⟩ hI st.1.1 st.1.2 (by simp) fun h' he' => hQ h' s.toks fun b o hb e => he' b o (fun h => hb (by simp [h])) e
  self := fun _ _ _ _ st hQ => wpAny_pyIter_tupleiter st.1.1 hQ
theorem max2_hot {a b : Int} {t u : Tok} {Q : Value → Shared → Prop} (hot : HotAt A x1 s.heap) (h : ∀ h' tk, Held s.heap h' → Q (if b > a then .int b u else .int a t) { s with heap := h', toks := tk }) :
    wpAny (model prog w) A (call (.builtin "max") [.int a t, .int b u]) Q E s := by
  obtain ⟨hh, o1, vs1, g1, d1, c1⟩ := hot
  have lt1 := Heap.lt_size g1
  have hT : (s.heap.push { cls := .type "tuple", data := .seq #[.int a t, .int b u] }).IsTuple s.heap.objs.size (intItems #[(a, t), (b, u)]) := ⟨_, Heap.get?_push_size _ rfl, rfl, 0, by simp [intItems]⟩
  have sz : (s.heap.push { cls := .type "tuple", data := .seq #[.int a t, .int b u] }).objs.size = s.heap.objs.size + 1 := Heap.size_push ..
  refine call_max_two (wpAny_pyIter_tuple hT ⟨_, [_, s.heap.objs.size, x1], [_], _, _, _, _, rfl,
    tup_walk (A := A.in1) hh d1 c1 (by rw [sz]; exact Nat.ne_of_lt (Nat.lt_succ_of_lt lt1)) (by rw [sz]; exact Nat.ne_of_lt (Nat.lt_succ_self _)) (intItems #[(a, t), (b, u)]),
    ⟨⟨⟨_, Heap.get?_push_size _ rfl, rfl, rfl⟩, hT.push _⟩, Heap.get?_push_of_some _ (Heap.get?_push_of_some _ g1)⟩, fun c hc => ?_, by simp [intItems], CmpOf.ints_gt (numAt #[(a, t), (b, u)]) (fun _ _ => intItems_at), fun v h' tk hP hk => ?_⟩)
  · show c < ((s.heap.push _).push _).objs.size
    rw [Heap.size_push, sz]
    simp only [List.mem_cons, List.not_mem_nil, or_false, sz] at hc
    rcases hc with rfl | rfl | rfl
    · exact Nat.lt_succ_self _
    · exact Nat.lt_succ_of_lt (Nat.lt_succ_self _)
    · exact Nat.lt_succ_of_lt (Nat.lt_succ_of_lt lt1)
  · have held : Held s.heap h' := fun c o e => hk c o (by
      rw [List.mem_singleton, sz]
      exact Nat.ne_of_lt (Nat.lt_succ_of_lt (Heap.lt_size e))) (Heap.get?_push_of_some _ (Heap.get?_push_of_some _ e))
    have q := h h' tk held
    have hv : v = if b > a then Value.int b u else Value.int a t := by
      have best : ∀ f : Nat → Nat → Bool, argBest f 1 = if f 1 0 = true then 1 else 0 := fun f => by
        simp [argBest]
      have hP' : (intItems #[(a, t), (b, u)])[argBest (fun i j => decide (numAt #[(a, t), (b, u)] i > numAt #[(a, t), (b, u)] j)) 1]? = some v := by
        have e : (intItems #[(a, t), (b, u)]).size - 1 = 1 := by simp [intItems]
        rw [e] at hP
        exact hP
      rw [best] at hP'
      by_cases hba : b > a <;> (simp [numAt, hba] at hP'; simpa [intItems, hba] using hP'.symm)
    rw [hv]
    exact q
end
end Mh
namespace Mh
open PySem PySem.Spec PyProof.Rows L2 TL HotX L2H
section
variable {X : Cx}
theorem call_max2H (hc : HotC X) : CallR X (.builtin "max") (fun xs H Q => ∃ i j, xs = [.int i, .int j] ∧ Q (.int (if j > i then j else i)) H) := by
  rintro pins s σ H xs us Q I r ⟨i, j, rfl, q⟩
  obtain ⟨u, w', rfl, ⟨t, rfl⟩, ⟨t', rfl⟩⟩ := vals2 r
  obtain ⟨x1, hot⟩ := hc.at I
  refine max2_hot hot fun h' tk k => ⟨_, H, I.kept k, ?_, q⟩
  split <;> exact ⟨_, rfl⟩
theorem iter_str {M : Program} {w : World} {A : Around} {E : Value → Shared → Prop} {s : Shared} {x : Str} {t : Tok} {Q : Value → Shared → Prop}
    (h : ∀ ty, ty = "str_ascii_iterator" ∨ ty = "str_iterator" → Q (.ref s.heap.objs.size) { s with heap := s.heap.push { cls := .type ty, data := .fields #[.str x t, .int 0 0] } }) : wpAny (model M w) A (pyIter (.str x t)) Q E s := by
  cases ha : x.cps.all (· < 128)
  · exact wpAny_pyIter_wide ha (h _ (.inr rfl))
  · exact wpAny_pyIter_ascii ha (h _ (.inl rfl))
theorem next_str {M : Program} {w : World} {A : Around} {E : Value → Shared → Prop} {s : Shared} {x : Str} {t : Tok} {it : Addr} {ty : String} {i c : Nat} {Q : Option Value → Shared → Prop} (hty : ty = "str_ascii_iterator" ∨ ty = "str_iterator") (st : s.heap.IsStrIter it ty x t i) (hx : x.cps[i]? = some c)
    (hQ : ∀ h' u tk, h'.IsStrIter it ty x t (i + 1) → Heap.SameBut it s.heap h' → Q (some (.str ⟨#[c]⟩ u)) { s with heap := h', toks := tk }) : wpAny (model M w) A (pyNext (.ref it)) Q E s := by
  rcases hty with rfl | rfl
  · exact wpAny_pyNext_ascii_item st hx fun h' a b => hQ _ _ _ a b
  · exact wpAny_pyNext_wide_item st hx fun h' a b => hQ _ _ _ a b
theorem self_str {M : Program} {w : World} {A : Around} {E : Value → Shared → Prop} {s : Shared} {x : Str} {t : Tok} {it : Addr} {ty : String} {i : Nat} {Q : Value → Shared → Prop} (hty : ty = "str_ascii_iterator" ∨ ty = "str_iterator") (st : s.heap.IsStrIter it ty x t i) (hQ : Q (.ref it) s) : wpAny (model M w) A (pyIter (.ref it)) Q E s := by
  rcases hty with rfl | rfl
  · exact wpAny_pyIter_striter_ascii st hQ
  · exact wpAny_pyIter_striter_wide st hQ
/-- [elt for target in a text if ..] while an exception is handled -/
theorem pe_lcSH {elt tg iter : Expr} {ifs : List Expr} {scope : Scope} {own : List (Str × Nat)} {pos : Pos} {ta : TE} {g : TG} {tt : TT} {te : TE} (hc : HotC X) (hN : X.N.Nodup) (ha : PE X iter ta) (ok : BlkOk X.N X.env.scope scope own)
    (hg : ∀ (s : Shared) (H : Hp) (C : Addr) (cl : List (Str × Addr)) (fp : List Addr), PG (X.blk s H scope (compEnvC scope cl C X.env) fp) tg g) (ht : ∀ (s : Shared) (H : Hp) (C : Addr) (cl : List (Str × Addr)) (fp : List Addr), PTs (X.blk s H scope (compEnvC scope cl C X.env) fp) ifs tt)
    (he : ∀ (s : Shared) (H : Hp) (C : Addr) (cl : List (Str × Addr)) (fp : List Addr), PE (X.blk s H scope (compEnvC scope cl C X.env) fp) elt te) (hs : ∀ x, foldedSetIterable iter X.env x = pure x := by intro _; rfl) :
    PE X (.ListComp elt [⟨tg, iter, ifs, 0⟩] scope pos) (tLc (iStr ta) g tt te (own.map (·.2))) := by
  refine ⟨fun pins s σ H Q I h => ?_⟩
  obtain ⟨p, ⟨hh, pv, pd, pc⟩, hp⟩ := hc
  rw [eval_ListComp]
  refine wpAny_comprehension_free rfl hs (closure_ok fun y hy e => (ok.free y hy e).elim (fun k => I.ok.has _ (.inl k)) fun k => I.ok.has _ (.inr k)) ok.kind (fun y hy e => by rw [ok.uniq y hy, e])
    (thn (ha.run pins s σ H _ I h) fun xv s1 hx => ?_)
  obtain ⟨y, H1, I1, r1, x, ey, q⟩ := hx
  subst ey
  obtain ⟨t, rfl⟩ := r1
  refine iter_str fun ty hty => ?_
  refine wpAny_newObj_type (newEnv_comp ?_) (by show 0 ≤ sizeLine; decide)
  generalize hit : s1.heap.objs.size = it
  generalize ho : ({ cls := .type ty, data := .fields #[.str x t, .int 0 0] } : Obj) = oi
  have hI2 : Inv X pins σ H1 { s1 with heap := s1.heap.push oi } := I1.kept (t' := s1.toks) fun b o e => Heap.get?_push_of_some _ e
  have hfp : FpOk X pins H1 it := I1.fpOk (Nat.le_of_eq hit) (I1.hok.fresh (Nat.le_of_eq hit))
  have hst : (s1.heap.push oi).IsStrIter it ty x t 0 := by
    subst hit ho
    exact ⟨_, Heap.get?_push_size _ rfl, rfl, rfl⟩
  have hsz : (s1.heap.push oi).objs.size = it + 1 := by rw [Heap.size_push, hit]
  generalize hs2 : ({ s1 with heap := s1.heap.push oi } : Shared) = s2 at hI2
  have hh2 : s2.heap = s1.heap.push oi := by rw [← hs2]
  rw [← hh2] at hst hsz
  generalize hD : s2.heap.objs.size = D
  obtain ⟨W, ⟨m0, w0⟩, turn⟩ := q D (hI2.hok.fresh (Nat.le_of_eq hD))
  generalize hs3 : ({ s2 with heap := s2.heap.push { cls := .type "list", data := .seq ([] : List Value).toArray } } : Shared) = s3
  have hI3 : Inv X pins σ (upd H1 D (.lst [])) s3 := by
    rw [← hs3]
    refine hI2.laid (t' := s2.toks) (fun b o e => Heap.get?_push_of_some _ e) (Nat.le_of_eq hD) ⟨Nat.zero_le _, [], 0, .nil, ?_⟩
    rw [← hD]
    exact Heap.get?_push_size _ rfl
  have hh3 : s3.heap = s2.heap.push { cls := .type "list", data := .seq ([] : List Value).toArray } := by rw [← hs3]
  have itD : it ≠ D := by
    rw [← hD, hsz]
    exact Nat.ne_of_lt (Nat.lt_succ_self _)
  have itL : it < s3.heap.objs.size := by
    rw [hh3, Heap.size_push, hsz]
    exact Nat.lt_succ_of_lt (Nat.lt_succ_self _)
  generalize hH3 : upd H1 D (.lst []) = H3 at hI3 w0
  have nit3 : H3 it = none := by
    rw [← hH3, upd_ne itD]
    exact hfp.1
  have f3 : ∀ b ∈ [it], FpOk X pins H3 b ∧ b < s3.heap.objs.size := fun b hb => by
    rw [List.mem_singleton] at hb
    subst hb
    exact ⟨⟨nit3, hfp.2⟩, itL⟩
  have gp := hI3.pin p (List.mem_append_left _ hp)
  have nstk : p.1 ∉ frs X.stack := fun hm => (List.mem_cons.mp (hI3.stkSub p.1 hm)).elim gp.2.2.1 gp.2.2.2.1
  have npi : p.1 ≠ it := hfp.2.2.2.2.2 p (List.mem_append_left _ hp)
  have hI4 := block_start hI3 ok hN f3
  have pg := hg s3 H3 s3.heap.objs.size (cellsFrom (s3.heap.objs.size + 1) scope.names (cloFrom X.env.cells scope.names [])) [it]
  have pt := ht s3 H3 s3.heap.objs.size (cellsFrom (s3.heap.objs.size + 1) scope.names (cloFrom X.env.cells scope.names [])) [it]
  have pe := he s3 H3 s3.heap.objs.size (cellsFrom (s3.heap.objs.size + 1) scope.names (cloFrom X.env.cells scope.names [])) [it]
  show codeAny _ _ (.compStart (.ListComp elt [⟨tg, iter, ifs, 0⟩] scope pos) 0 (.ref it) (.ref D) (compEnvC scope (cellsFrom (s3.heap.objs.size + 1) scope.names (cloFrom X.env.cells scope.names [])) s3.heap.objs.size X.env)) (compPost (model X.prog X.w) X.A X.xe none _ (.ref D) s3.heap.objs.size) { s3 with heap := pushCells (s3.heap.push { cls := .type "dict", data := .dict #[] }) scope.names }
  generalize hce : compEnvC scope (cellsFrom (s3.heap.objs.size + 1) scope.names (cloFrom X.env.cells scope.names [])) s3.heap.objs.size X.env = ce at hI4 pg pt pe ⊢
  have cL : ce.locals = s3.heap.objs.size := by rw [← hce]; rfl
  have hst4 : (pushCells (s3.heap.push { cls := .type "dict", data := .dict #[] }) scope.names).IsStrIter it ty x t 0 := by
    obtain ⟨o, h1, h2⟩ := hst
    exact ⟨o, pushCells_keeps _ _ _ _ (Heap.get?_push_of_some _ (by rw [hh3]; exact Heap.get?_push_of_some _ h1)), h2⟩
  generalize hs4 : ({ s3 with heap := pushCells (s3.heap.push { cls := .type "dict", data := .dict #[] }) scope.names } : Shared) = s4 at hI4 ⊢
  have hst5 : s4.heap.IsStrIter it ty x t 0 := by rw [← hs4]; exact hst4
  -- within the block
  have fpB : ∀ {σ' : L2.St} {H' : Hp} {s' : Shared}, Inv (X.blk s3 H3 scope ce [it]) [] σ' H' s' → H' it = none → FpOk (X.blk s3 H3 scope ce [it]) [] H' it := fun {σ' H' s'} J hn =>
    ⟨hn, (J.ok.exf it List.mem_cons_self).1, J.ok.exfs it List.mem_cons_self, .inl List.mem_cons_self, fun x c e => (J.ok.exf it List.mem_cons_self).2 x c e, fun p hp => absurd (show p ∈ ([] : List (Addr × Obj)) ++ [] from hp) (by simp)⟩
  have hotB : ∀ {σ' : L2.St} {H' : Hp} {s' : Shared}, Inv (X.blk s3 H3 scope ce [it]) [] σ' H' s' → HotAt X.A p.1 s'.heap := fun {σ' H' s'} J =>
    ⟨hh, p.2, pv, J.base.keep p.1 p.2 gp.1 gp.2.1 nstk (fun hm => npi (List.mem_singleton.mp hm)), pd, pc⟩
  have obj : ∀ {h : Heap} {i : Nat}, h.IsStrIter it ty x t i → ∀ b ∈ [it], ∃ o, h.get? b = some o ∧ ∀ v, o.data ≠ .cell v := fun {h i} st b hb => by
    rw [List.mem_singleton] at hb
    subst hb
    obtain ⟨o, e, c, d⟩ := st
    exact ⟨o, e, fun v z => by rw [d] at z; cases z⟩
  have loop : codeAny (model X.prog X.w) X.A (.compLoop (.ListComp elt [⟨tg, iter, ifs, 0⟩] scope pos) 0 (.ref it) (.ref D) ce) (compPost (model X.prog X.w) X.A X.xe none (EP X pins σ Q) (.ref D) s3.heap.objs.size) s4 := by
    refine compLoop_any (fun n s' => ∃ i H', Inv (X.blk s3 H3 scope ce [it]) [] (wipe σ (own.map (·.2))) H' s' ∧ s'.heap.IsStrIter it ty x t i ∧ H' it = none ∧ W i n H') ?_ m0 ⟨0, H3, hI4, hst5, nit3, w0⟩
    rintro n s5 ⟨i, H5, I5, st5, n5, w5⟩
    obtain ⟨f0, f1, f2, f3', f4, f5⟩ := fpB I5 n5
    rcases turn i n H5 w5 with ⟨stop, qq⟩ | ⟨go, Nx, hNx, step⟩
    · refine str_stop (hotB I5) npi hty st5 (Array.getElem?_eq_none stop) fun h' eb => ?_
      have I6 : Inv (X.blk s3 H3 scope ce [it]) [] (wipe σ (own.map (·.2))) H5 { s5 with heap := h' } := I5.turned (t' := s5.toks) eb f0 f1 f3' f4 f5
      have I7 : Inv X pins σ H5 { s5 with heap := h' } := hI3.call' (ch := [it]) I6.os I6.base I6.hok I6.bare fun b hb => ⟨(f3 b hb).1.2.2.2.1, (f3 b hb).1.2.1, (f3 b hb).1.2.2.2.2.1, (f3 b hb).1.2.2.2.2.2⟩
      have nC : H5 s3.heap.objs.size = none := by
        have z : H5 ce.locals = none := I6.free
        rwa [cL] at z
      obtain ⟨m, hn, _⟩ := I6.loc
      have hn : Heap.Ns h' ce.locals m := hn
      rw [cL] at hn
      obtain ⟨g0, g1, g2, g3, g4, g5⟩ := hI3.fpOk (Nat.le_refl _) nC
      exact ⟨m, hn, fun h'' sb => ⟨.ref D, H5, I7.turned (t' := s5.toks) (fun b o hb e => (sb.2 b hb).trans e) g0 g1 g3 g4 g5, rfl, qq⟩⟩
    · obtain ⟨c, hcx⟩ : ∃ c, x.cps[i]? = some c := ⟨_, Array.getElem?_eq_getElem (show i < x.cps.size from go)⟩
      refine next_str hty st5 hcx fun h' u tk st6 sb => ?_
      have I6 : Inv (X.blk s3 H3 scope ce [it]) [] (wipe σ (own.map (·.2))) H5 { s5 with heap := h', toks := tk } := I5.turned (fun b o hb e => (sb.2 b hb).trans e) f0 f1 f3' f4 f5
      obtain ⟨oi', e1, e2, e3⟩ := id st6
      refine go_of (s := { s5 with heap := h', toks := tk }) e1 e2 e3 (by rcases hty with rfl | rfl <;> decide) ?_
      have I7 := I6.pinned (fun b hb => by rw [List.mem_singleton.mp hb]; exact fpB I6 n5) (obj st6)
      refine thnF (pg.run _ _ _ H5 (.str ⟨#[c]⟩) _ _ I7 ⟨u, rfl⟩ (step _ H5 ⟨rfl, c, hcx, rfl⟩)) fun _ s8 ⟨σ8, H8, I8, hw8, q8⟩ => ?_
      refine thnF (pt.run _ s8 σ8 H8 _ I8 q8) fun b s9 ⟨H9, I9, q9⟩ => ?_
      have fin : ∀ {s' : Shared} {H' : Hp}, Inv (X.blk s3 H3 scope ce [it]) ([] ++ pinsAt [it] h') σ8 H' s' → Nx H' → ∃ m, m < n ∧ ∃ i H', Inv (X.blk s3 H3 scope ce [it]) [] (wipe σ (own.map (·.2))) H' s' ∧ s'.heap.IsStrIter it ty x t i ∧ H' it = none ∧ W i m H' := fun {s' H'} J nx => by
        obtain ⟨m', hm, w'⟩ := hNx H' nx
        have pz := J.pin (it, oi') (List.mem_append_right _ (List.mem_append_right _ (mem_pinsAt List.mem_cons_self e1)))
        refine ⟨m', hm, i + 1, H', (J.unpinned (pins := [])).weak (by rw [← hw8, wipe_length]) (fun j v e => ?_), ⟨oi', pz.1, e2, e3⟩, pz.2.1, w'⟩
        rw [← hw8] at e
        exact (wipe_some e).1
      cases b with
      | false => exact fin I9 q9
      | true => exact thnF (pe.run _ s9 σ8 H9 _ I9 q9) fun z s10 ⟨yv, H10, I10, r10, acc, hD10, hz10, nx⟩ => app_ok (X := X.blk s3 H3 scope ce [it]) I10 hD10 hz10 r10 fun s11 I11 => fin I11 nx
  exact codeAny_compStart_list loop (self_str hty hst5 loop)
end
end Mh
namespace Mh
open PySem PySem.Spec PyProof.Rows L2 TL
/-- the exception that is handled: its fields stand in dd -/
def xk (a dd : Addr) (fv : List (Str × V)) : Knd where
  ok := fun _ M v => v = .ref a ∧ M dd = some (.xd fv)
  up := fun e h => ⟨h.1, e _ _ h.2⟩
section
variable {C : Ct} {ρ : List Kd} {σ : L2.St} {H H' H1 : Hp} {ta : TA} {te : TE} {a dd D : Addr} {fv : List (Str × V)} {v : V} {P : Po} {i j : Nat} {f : Str}
theorem xk_here (rp : Rep C σ H ρ) (h : H dd = some (.xd fv)) : msk C ρ H dd = some (.xd fv) := by
  refine msk_mk h (fun ⟨i, ds, e⟩ => ?_) (fun z => ?_) fun z => ?_
  · obtain ⟨_, vs, q, _⟩ := rp.sl i _ e
    rw [h] at q
    cases q
  · obtain ⟨xs, q⟩ := rp.ok.ls H dd rp.j z
    rw [h] at q
    cases q
  · rw [h] at z
    exact z.2.2
/-- err.f -/
theorem e_xf {d : PyData} (h : E1 C te ρ (.k (xk a dd fv))) (hf : fv.lookup f = some v) (hd : ∀ M, Dp C.K M v d) : E1 C (tXf a (.ref D) (some dd) D f te) ρ (.dat d) := fun σ H r Q q => h σ H r _ fun k x H1 s1 r1 o1 => by
  subst s1
  exact ⟨o1.1, rfl, dd, fv, v, rfl, (msk_of o1.2).1, hf, q _ _ _ rfl r1 (hd _)⟩
/-- name = f(..), the exceptions of class D caught -/
theorem b_tryX {A : At} {ks ks' : List Kd} {S' : Kd → Prop} {Z' : Zt} {c : Value} {ts : Addr → Value → Option Addr → TS} {Wout : WX} (ha : A1 C ta ρ ks) (hk : ArgsK false ks ks') (hA : A ks' S' Z') (hS : ∀ k, S' k → NxA P.nx ρ j k)
    (hx : ∀ cls fs, Z' cls fs → PySem.W.exmOne C.K cls c = some true ∧ ∀ a dd fv, (∃ M, FsOk C.K M fv fs) → BS C (ts a cls (some dd)) (ρ.set i (.k (xk a dd fv))) { rt := P.rt }) :
    BS C (fun D σ H => tAsg (tCallS (SpP C.K A) (WE (wAs C.K c i ts Wout D)) ta) (gName j) D σ H) ρ P := fun σ H rp D pd => ha σ H rp _ fun ks2 vs H1 s1 r1 o1 => by
  subst s1
  have no := args_own hk
  have rp1 := rp.up r1
  obtain ⟨g1, g2⟩ := args_ok (E := WE (wAs C.K c i ts Wout D) σ) (Z := Z') (ρ' := ks') rp r1 (.inr ⟨rfl, rfl⟩) no o1 hk
  refine ⟨ks', S', Z', hA, ⟨⟨fun _ _ _ _ => trivial, fun _ _ _ f => f.elim, trivial, fun cls fs d H' fv z rr h0 hxd fo => ?_⟩, trivial, fun a o h _ => h, by rw [List.length_map]; exact g1, fun a b l ds es ha => (no l ⟨a, ds, ha⟩).elim, fun l o => (no l o).elim, g2, fun p hp => by cases hp⟩, fun k v H' s2 ro => ?_⟩
  · obtain ⟨ex, hs⟩ := hx cls fs z
    refine ⟨true, ex, fun _ a _ => ?_, fun h => by cases h⟩
    have r2 := call_R (F := noF) (J := noJ) (fr := false) (E := WE (wAs C.K c i ts Wout D) σ) (Z := Z') rp1 (.inr ⟨rfl, rfl⟩) rr
    have rp2 := rp1.up r2
    have rp3 : Rep C (σ.set i (some (.ref a))) H' (ρ.set i (.k (xk a d fv))) := rp2.set_plain (Hs := H') (k := .k (xk a d fv)) rfl ⟨rfl, xk_here rp2 hxd⟩
    exact hs a d fv ⟨_, fo⟩ _ _ rp3 _ ⟨fun _ _ _ z => z.elim, fun k v H p ro => pd.rt k v H p ro, fun _ _ _ z => z.elim, fun _ _ _ z => z.elim⟩
  · obtain ⟨r2, o2⟩ := call_back rp1 (.inr ⟨rfl, rfl⟩) ro
    obtain ⟨ρ', n, r'⟩ := nx_store rp (r1.trans r2) (o2.back rp.ok r1) (hS k s2)
    exact pd.nx ρ' _ H' n r'
end
end Mh
namespace Mh
open PySem PySem.Spec PyProof.Rows L2 TL L2H
/-! ### defs called where an exception is handled; calls whose wish hangs on the names -/
section
variable {X : Cx} {CX : CXT} {g : Bool} {k : Nat} {ps : List Str} {sp : Sp} {x : Str} {p pos : Pos} {e : Expr} {es : List Expr} {t : TA}
theorem pe_clS {E : L2.St → XK} (c : Cl X.prog X.w X.K X.mg X.base CX g x k ps sp) (room : Room k X.A) (gd : g = true → X.A.guards = some []) (pass : ∀ σ, PassesAt CX X σ (E σ)) (gl : Gl X x) (args : PA X (e :: es) t) (h1 : (x == ("__debug__" : Str)) = false := by decide)
    (h2 : starEach (e :: es) X.env = (false, eval e X.env) :: starEach es X.env := by rfl) (h3 : (backTo pos (starEach es X.env)).any (·.1) = false := by rfl) : PE X (.Call (.Name x p) (e :: es) [] pos) (tCallS sp E t) := ⟨fun pins s σ H Q I want => by
  obtain ⟨f, fd, F, m, keep, bind⟩ := c.ex
  refine wpAny_Call_Name_kw (ld_glob I gl m (PySem.W.callWith_K (h₀ := X.base) I.ok.mod.kin keep (thn (args.run pos pins s σ H _ I want) ?_) h2 h3) h1)
  rintro us s1 ⟨vs, H1, I1, vals, prom⟩
  refine ⟨I1.kIn, ?_⟩
  have b := bind s1 us I1.kIn (by rw [List.append_nil, ← vals.length]; exact F.len _ _ _ _ prom)
  rw [List.append_nil] at b
  refine wpAny_call (codeAny_mono (F.run X.A X.stack s1 H1 ⟨us, []⟩ us vs Q (E σ) room gd I1.env0 b vals prom) fun out s' h => ?_)
  match out, h with
  | .error err, h => exact pass σ pins H1 s1 err s' I1 h
  | .ok (.ret u), h => exact I1.after h⟩
/-- a name that stands for a def, called where an exception is handled -/
structure ClH (P : Program) (w : World) (K : PySem.W.Frag) (mg : Str → Option Value) (base : Heap) (CX : CXT) (x : Str) (k : Nat) (ps : List Str) (sp : Sp) : Prop where
  ex : ∃ f fd, FnH P w K mg base CX k f fd ps sp ∧ mg x = some (.ref f) ∧ PySem.W.keepIn K (.ref f) = true ∧ Binds K fd ps []
theorem pe_clH {E : XK} (c : ClH X.prog X.w X.K X.mg X.base CX x k ps sp) (room : RoomH k X.A) (hot : HotC X) (pass : ∀ σ, PassesAt CX X σ E) (gl : Gl X x) (args : PA X (e :: es) t) (h1 : (x == ("__debug__" : Str)) = false := by decide)
    (h2 : starEach (e :: es) X.env = (false, eval e X.env) :: starEach es X.env := by rfl) (h3 : (backTo pos (starEach es X.env)).any (·.1) = false := by rfl) : PE X (.Call (.Name x p) (e :: es) [] pos) (tCall sp [] E t) := ⟨fun pins s σ H Q I want => by
  obtain ⟨f, fd, F, m, keep, bind⟩ := c.ex
  refine (pe_callH (E := fun _ => E) F room hot gl m keep bind pass args h1 h2 h3).run pins s σ H Q I ?_
  have e : (fun (vs : List V) (H2 : Hp) => sp (vs ++ []) H2 Q E) = fun vs H2 => sp vs H2 Q E := by
    funext vs H2
    rw [List.append_nil]
  have want : t σ H (fun vs H2 => sp (vs ++ []) H2 Q E) := want
  rw [e] at want
  exact want⟩
end
section
variable {P : Program} {w : World} {K : PySem.W.Frag} {mg : Str → Option Value} {base : Heap} {CX : CXT} {k : Nat} {f : Addr} {fd : FuncData} {ps N : List Str} {sp : Sp} {x qual : Str} {params : Arguments} {body : List Stmt} {scope : Scope}
theorem clH_of (F : FunD K x qual params body scope [] [] f fd) (m : mg x = some (.ref f)) (sc : FnScope N ps scope) (len : ∀ vs H Q E, sp vs H Q E → vs.length = ps.length)
    (bind : ∀ (kV doc pm : Value) (an : Option Addr) (cdv ct : Value) (us : List Value), us.length = ps.length → bindArgs (PySem.W.fnOf x qual params body scope .none kV doc pm an cdv ct) ⟨us, []⟩ = pure (ps.zip us))
    (hb : ∀ (cdv : Value) (A : Around) (outer : List Env) (s : Shared) (H : Hp) (vs : List V) (Q : VK) (E : XK) (p : Addr × Obj), Hot1 A p → RoomH k (A.deeper (envOfC qual scope s.heap.objs.size f cdv)) → sp vs H Q E →
      ∃ t, PSs (L2H.cxH CX P w K mg base N qual scope f cdv A outer s H E p) body t ∧ t { nx := fun _ H' => Q .non H', rt := Q } (L2.start N vs) H) : ClH P w K mg base CX x (k + 1) ps sp := by
  have b : Binds K fd ps [] := F.bindsN bind
  have kp := F.kp
  obtain ⟨oc, od, dV, kV, doc, pm, an, cdv, ct, osl, rfl, there, code, _, _⟩ := F.ex
  exact ⟨f, _, fn_ofH there code sc len fun A outer s H vs Q E p hot room prom => hb cdv A outer s H vs Q E p hot room prom, m, kp, b⟩
end
end Mh
namespace Mh
open PySem PySem.Spec PyProof.Rows L2 TL
/-! ### readings to plain questions: each reading has a transformer that asks of kinds alone -/
abbrev XF := Ct → List Kd → (Kd → Prop) → Prop
class WE (K : PySem.W.Frag) (E : XK) (te : TE) (f : outParam XF) : Prop where
  ok : ∀ {C : Ct} {ρ : List Kd} {S : Kd → Prop}, C.K = K → C.E = E → f C ρ S → EB C te ρ S
class WT (K : PySem.W.Frag) (E : XK) (tt : TT) (f : outParam (Ct → List Kd → (Bool → Prop) → Prop)) : Prop where
  ok : ∀ {C : Ct} {ρ : List Kd} {S : Bool → Prop}, C.K = K → C.E = E → f C ρ S → ET C tt ρ S
class WA (K : PySem.W.Frag) (E : XK) (ta : TA) (f : outParam (Ct → List Kd → (List Kd → Prop) → Prop)) : Prop where
  ok : ∀ {C : Ct} {ρ : List Kd} {S : List Kd → Prop}, C.K = K → C.E = E → f C ρ S → EA C ta ρ S
def EOs (C : Ct) (to : TO) (ρ : List Kd) (S : Option Int → Prop) : Prop :=
  ∀ (σ : L2.St) (H : Hp), Rep C σ H ρ → ∀ Q : Option Int → Hp → Prop, (∀ o H', S o → R C H H' → Q o H') → to σ H Q
class WO (K : PySem.W.Frag) (E : XK) (to : TO) (f : outParam (Ct → List Kd → (Option Int → Prop) → Prop)) : Prop where
  ok : ∀ {C : Ct} {ρ : List Kd} {S : Option Int → Prop}, C.K = K → C.E = E → f C ρ S → EOs C to ρ S
class WS (K : PySem.W.Frag) (E : XK) (t : TS) (f : outParam (Ct → List Kd → Po → Prop)) : Prop where
  ok : ∀ {C : Ct} {ρ : List Kd} {P : Po}, C.K = K → C.E = E → f C ρ P → BS C t ρ P
class WI (K : PySem.W.Frag) (E : XK) (wi : TI) (f : outParam (Ct → List Kd → (List PyData → Prop) → Prop)) : Prop where
  ok : ∀ {C : Ct} {ρ : List Kd} {S : List PyData → Prop}, C.K = K → C.E = E → f C ρ S → EIS C wi ρ S
class WR (K : PySem.W.Frag) (r : R2) (g : outParam (Kd → Kd → (Kd → Prop) → Prop)) : Prop where
  ok : ∀ {C : Ct} {ρ : List Kd} {x y : Kd} {S : Kd → Prop}, C.K = K → g x y S → OpK C ρ r x y S
class WB (K : PySem.W.Frag) (r : List V → Hp → VK → Prop) (g : outParam (List Kd → (Kd → Prop) → Prop)) : Prop where
  ok : ∀ {C : Ct} {ρ : List Kd} {ks : List Kd} {S : Kd → Prop}, C.K = K → g ks S → CbK C ρ r ks S
section
variable {K : PySem.W.Frag} {E : XK} {C : Ct} {σ : L2.St} {H H' H1 H2 Hs : Hp} {ρ : List Kd} {v : V} {k x y z : Kd} {l : Addr} {d e : PyData} {ds es : List PyData} {ta tb tc te : TE} {tt tu : TT} {ti : TI} {t u : TS} {al : TA} {i j : Nat} {S S1 S2 : Kd → Prop} {P P' : Po}
/-! names, constants -/
def gV (o : Option Kd) (S : Kd → Prop) : Prop := ∃ k, o = some k ∧ rdK k = true ∧ S k
theorem gV_some : gV (some k) S ↔ (rdK k = true ∧ S k) := ⟨fun ⟨_, e, h⟩ => by cases e; exact h, fun h => ⟨_, rfl, h⟩⟩
instance : WE K E (tVar i) (fun _ ρ S => gV ρ[i]? S) := ⟨fun _ _ ⟨k, e, h, s⟩ => (e_var e h).to s⟩
instance {n : Int} : WE K E (tC (.int n)) (fun _ _ S => S (.dat (.int n))) := ⟨fun _ _ s => e_int.to s⟩
instance {n : Str} : WE K E (tC (.str n)) (fun _ _ S => S (.dat (.str n))) := ⟨fun _ _ s => e_str.to s⟩
instance {n : Bool} : WE K E (tC (.bl n)) (fun _ _ S => S (.dat (.bool n))) := ⟨fun _ _ s => e_bl.to s⟩
instance : WE K E (tC .non) (fun _ _ S => S (.dat .none)) := ⟨fun _ _ s => e_non.to s⟩
/-! operators -/
instance {r : R2} {fa fb : XF} {g : Kd → Kd → (Kd → Prop) → Prop} [a : WE K E ta fa] [b : WE K E tb fb] [o : WR K r g] : WE K E (tOp r ta tb) (fun C ρ S => fa C ρ fun x => fb C ρ fun y => g x y S) :=
  ⟨fun hK hE h => fun σ H rp Q q => a.ok hK hE h σ H rp _ fun x v H1 s1 r1 o1 => b.ok hK hE s1 σ H1 (rp.up r1) _ fun y w H2 s2 r2 o2 =>
    o.ok hK s2 σ H H2 v w rp (r1.trans r2) (rp.up (r1.trans r2)) (o1.up rp r2) (o2.back rp.ok r1) Q fun k u H3 s3 r3 o3 => q k u H3 s3 ((r1.trans r2).trans r3) (o3.back rp.ok (r1.trans r2))⟩
/-- two whole numbers -/
def gII (P : Int → Int → Prop) (f : Int → Int → PyData) (x y : Kd) (S : Kd → Prop) : Prop := ∃ i j : Int, x = .dat (.int i) ∧ y = .dat (.int j) ∧ P i j ∧ S (.dat (f i j))
theorem gII_i {P : Int → Int → Prop} {f : Int → Int → PyData} {i j : Int} : gII P f (.dat (.int i)) (.dat (.int j)) S ↔ (P i j ∧ S (.dat (f i j))) :=
  ⟨fun ⟨_, _, e1, e2, h⟩ => by cases e1; cases e2; exact h, fun h => ⟨_, _, rfl, rfl, h⟩⟩
def gI0 (f : Int → Int → PyData) (x y : Kd) (S : Kd → Prop) : Prop := ∃ i j : Int, x = .dat (.int i) ∧ y = .dat (.int j) ∧ S (.dat (f i j))
theorem gI0_i {f : Int → Int → PyData} {i j : Int} : gI0 f (.dat (.int i)) (.dat (.int j)) S ↔ S (.dat (f i j)) :=
  ⟨fun ⟨_, _, e1, e2, h⟩ => by cases e1; cases e2; exact h, fun h => ⟨_, _, rfl, rfl, h⟩⟩
instance : WR K rSubI (gI0 fun i j => .int (i - j)) := ⟨fun _ ⟨i, j, e1, e2, s⟩ => by subst e1 e2; exact k_sub_i.imp fun k h => h ▸ s⟩
instance : WR K rDivI (gII (fun _ j => 0 < j ∧ j < 1073741824) fun i j => .int (i / j)) := ⟨fun _ ⟨i, j, e1, e2, p, s⟩ => by subst e1 e2; exact (k_div_i p).imp fun k h => h ▸ s⟩
instance : WR K rModI (gII (fun _ j => 0 < j) fun i j => .int (i % j)) := ⟨fun _ ⟨i, j, e1, e2, p, s⟩ => by subst e1 e2; exact (k_mod_i p).imp fun k h => h ▸ s⟩
instance : WR K rMulI (gII CMul fun i j => .int (i * j)) := ⟨fun _ ⟨i, j, e1, e2, p, s⟩ => by subst e1 e2; exact (k_mulI p).imp fun k h => h ▸ s⟩
instance : WR K rPowI (gII CPow fun i j => .int (i ^ j.toNat)) := ⟨fun _ ⟨i, j, e1, e2, p, s⟩ => by subst e1 e2; exact (k_pow_i p).imp fun k h => h ▸ s⟩
instance : WR K rLtI (gI0 fun i j => .bool (decide (i < j))) := ⟨fun _ ⟨i, j, e1, e2, s⟩ => by subst e1 e2; exact k_lt.imp fun k h => h ▸ s⟩
instance : WR K rLeI (gI0 fun i j => .bool (decide (i ≤ j))) := ⟨fun _ ⟨i, j, e1, e2, s⟩ => by subst e1 e2; exact k_le.imp fun k h => h ▸ s⟩
instance : WR K rGtI (gI0 fun i j => .bool (decide (j < i))) := ⟨fun _ ⟨i, j, e1, e2, s⟩ => by subst e1 e2; exact k_gt.imp fun k h => h ▸ s⟩
instance : WR K rGeI (gI0 fun i j => .bool (decide (j ≤ i))) := ⟨fun _ ⟨i, j, e1, e2, s⟩ => by subst e1 e2; exact k_ge.imp fun k h => h ▸ s⟩
def gAdd (x y : Kd) (S : Kd → Prop) : Prop := (∃ i j : Int, x = .dat (.int i) ∧ y = .dat (.int j) ∧ S (.dat (.int (i + j)))) ∨ (∃ a b : Str, x = .dat (.str a) ∧ y = .dat (.str b) ∧ a.length + b.length ≤ sizeLine ∧ S (.dat (.str (a ++ b)))) ∨
  (∃ a b : List PyData, x = .dat (.tuple a) ∧ y = .dat (.tuple b) ∧ a.length + b.length ≤ sizeLine ∧ S (.dat (.tuple (a ++ b)))) ∨ ∃ a b, lstK x = some a ∧ lstK y = some b ∧ a.length + b.length ≤ sizeLine ∧ S (.new (a ++ b))
theorem gAdd_i {i j : Int} : gAdd (.dat (.int i)) (.dat (.int j)) S ↔ S (.dat (.int (i + j))) := by unfold gAdd; simp [lstK]
theorem gAdd_s {i j : Str} : gAdd (.dat (.str i)) (.dat (.str j)) S ↔ (i.length + j.length ≤ sizeLine ∧ S (.dat (.str (i ++ j)))) := by unfold gAdd; simp [lstK]
theorem gAdd_t {i j : List PyData} : gAdd (.dat (.tuple i)) (.dat (.tuple j)) S ↔ (i.length + j.length ≤ sizeLine ∧ S (.dat (.tuple (i ++ j)))) := by unfold gAdd; simp [lstK]
theorem gAdd_nn {i j : List PyData} : gAdd (.new i) (.new j) S ↔ (i.length + j.length ≤ sizeLine ∧ S (.new (i ++ j))) := by unfold gAdd; simp [lstK]
theorem gAdd_on {i j : List PyData} : gAdd (.own l i) (.new j) S ↔ (i.length + j.length ≤ sizeLine ∧ S (.new (i ++ j))) := by unfold gAdd; simp [lstK]
theorem gAdd_no {i j : List PyData} : gAdd (.new i) (.own l j) S ↔ (i.length + j.length ≤ sizeLine ∧ S (.new (i ++ j))) := by unfold gAdd; simp [lstK]
instance : WR K (rAddP K) gAdd := ⟨fun hK h => by
  subst hK
  rcases h with ⟨i, j, e1, e2, s⟩ | ⟨i, j, e1, e2, p, s⟩ | ⟨i, j, e1, e2, p, s⟩ | ⟨i, j, e1, e2, p, s⟩
  · subst e1 e2; exact k_add_i.imp fun k h => h ▸ s
  · subst e1 e2; exact (k_add_s p).imp fun k h => h ▸ s
  · subst e1 e2; exact (k_add_t p).imp fun k h => h ▸ s
  · exact (k_add_l e1 e2 p).imp fun k h => h ▸ s⟩
def gMul (x y : Kd) (S : Kd → Prop) : Prop := ∃ i j : Int, x = .dat (.int i) ∧ y = .dat (.int j) ∧ CMul i j ∧ S (.dat (.int (i * j)))
theorem gMul_i {i j : Int} : gMul (.dat (.int i)) (.dat (.int j)) S ↔ (CMul i j ∧ S (.dat (.int (i * j)))) := ⟨fun ⟨_, _, e1, e2, h⟩ => by cases e1; cases e2; exact h, fun h => ⟨_, _, rfl, rfl, h⟩⟩
instance : WR K (rMulP K) gMul := ⟨fun hK ⟨i, j, e1, e2, p, s⟩ => by subst hK e1 e2; exact (k_mul_i p).imp fun k h => h ▸ s⟩
/-- equal or not -/
def gEq (f : Bool → Bool) (x y : Kd) (S : Kd → Prop) : Prop := (∃ i j : Int, x = .dat (.int i) ∧ y = .dat (.int j) ∧ S (.dat (.bool (f (decide (i = j)))))) ∨ (∃ i j : Str, x = .dat (.str i) ∧ y = .dat (.str j) ∧ S (.dat (.bool (f (decide (i = j)))))) ∨
  ∃ d e, datK x = some d ∧ datK y = some e ∧ SeqAt.shaped d = true ∧ SeqAt.shaped e = true ∧ S (.dat (.bool (f (PyData.eqv d e))))
theorem gEq_i {f : Bool → Bool} {i j : Int} (h : S (.dat (.bool (f (decide (i = j)))))) : gEq f (.dat (.int i)) (.dat (.int j)) S := .inl ⟨_, _, rfl, rfl, h⟩
theorem gEq_s {f : Bool → Bool} {i j : Str} (h : S (.dat (.bool (f (decide (i = j)))))) : gEq f (.dat (.str i)) (.dat (.str j)) S := .inr (.inl ⟨_, _, rfl, rfl, h⟩)
theorem gEq_d {f : Bool → Bool} (hx : datK x = some d) (hy : datK y = some e) (h1 : SeqAt.shaped d = true) (h2 : SeqAt.shaped e = true) (h : S (.dat (.bool (f (PyData.eqv d e))))) : gEq f x y S := .inr (.inr ⟨_, _, hx, hy, h1, h2, h⟩)
instance : WR K (rEqP K) (gEq id) := ⟨fun hK h => by
  subst hK
  rcases h with ⟨i, j, e1, e2, s⟩ | ⟨i, j, e1, e2, s⟩ | ⟨d, e, e1, e2, p1, p2, s⟩
  · subst e1 e2; exact k_eq_i.imp fun k h => h ▸ s
  · subst e1 e2; exact k_eq_s.imp fun k h => h ▸ s
  · exact (k_eq e1 e2 p1 p2).imp fun k h => h ▸ s⟩
instance : WR K (rNeP K) (gEq not) := ⟨fun hK h => by
  subst hK
  rcases h with ⟨i, j, e1, e2, s⟩ | ⟨i, j, e1, e2, s⟩ | ⟨d, e, e1, e2, p1, p2, s⟩
  · subst e1 e2; exact k_ne_i.imp fun k h => h ▸ s
  · subst e1 e2; exact k_ne_s.imp fun k h => h ▸ s
  · exact (k_ne e1 e2 p1 p2).imp fun k h => h ▸ s⟩
def gNon (f : Bool → Bool) (x y : Kd) (S : Kd → Prop) : Prop := ∃ d, x = .dat d ∧ y = .dat .none ∧ S (.dat (.bool (f (isNon d))))
theorem gNon_d {f : Bool → Bool} : gNon f (.dat d) (.dat .none) S ↔ S (.dat (.bool (f (isNon d)))) := ⟨fun ⟨_, e1, _, h⟩ => by cases e1; exact h, fun h => ⟨_, rfl, rfl, h⟩⟩
instance : WR K rIsN (gNon id) := ⟨fun _ ⟨d, e1, e2, s⟩ => by subst e1 e2; exact k_isN.imp fun k h => h ▸ s⟩
instance : WR K rNotN (gNon not) := ⟨fun _ ⟨d, e1, e2, s⟩ => by subst e1 e2; exact k_notN.imp fun k h => h ▸ s⟩
def gInS (f : Bool → Bool) (x y : Kd) (S : Kd → Prop) : Prop := ∃ (c : Nat) (w : Str), x = .dat (.str ⟨#[c]⟩) ∧ y = .dat (.str w) ∧ S (.dat (.bool (f (decide (c ∈ tl w)))))
instance : WR K rInS (gInS id) := ⟨fun _ ⟨d, w, e1, e2, s⟩ => by subst e1 e2; exact k_inS.imp fun k h => h ▸ s⟩
instance : WR K rNotInS (gInS not) := ⟨fun _ ⟨d, w, e1, e2, s⟩ => by subst e1 e2; exact k_ninS.imp fun k h => h ▸ s⟩
def gInD (f : Bool → Bool) (x y : Kd) (S : Kd → Prop) : Prop := ∃ d es, datK x = some d ∧ datK y = some (.list es) ∧ SeqAt.shaped d = true ∧ SeqAt.shaped (.list es) = true ∧ S (.dat (.bool (f (es.any fun z => PyData.eqv z d))))
theorem gInD_of {f : Bool → Bool} (hx : datK x = some d) (hy : datK y = some (.list es)) (h1 : SeqAt.shaped d = true) (h2 : SeqAt.shaped (.list es) = true) (h : S (.dat (.bool (f (es.any fun z => PyData.eqv z d))))) : gInD f x y S := ⟨_, _, hx, hy, h1, h2, h⟩
instance : WR K (rInD K) (gInD id) := ⟨fun hK ⟨d, es, e1, e2, p1, p2, s⟩ => by subst hK; exact (k_inD e1 e2 p1 p2).imp fun k h => h ▸ s⟩
instance : WR K (rNotInD K) (gInD not) := ⟨fun hK ⟨d, es, e1, e2, p1, p2, s⟩ => by
  subst hK
  exact fun σ Hs H v w _ q r o1 o2 Q k => ⟨d, es, (o1.dp e1).kit (SeqAt.canLay_of_shaped p1), (o2.dp e2).kit (SeqAt.canLay_of_shaped p2), p1, p2, k _ _ _ s (R.refl r.j) (.bl _)⟩⟩
def gIx (x y : Kd) (S : Kd → Prop) : Prop := (∃ ds d, ∃ i : Int, seqK x = some ds ∧ y = .dat (.int i) ∧ atI ds i = some d ∧ S (.dat d)) ∨ ∃ (z : Str) (c : Nat) (i : Int), x = .dat (.str z) ∧ y = .dat (.int i) ∧ z.length ≤ sizeLine ∧ atI (tl z) i = some c ∧ S (.dat (.str ⟨#[c]⟩))
theorem gIx_of {i : Int} (hx : seqK x = some ds) (h : atI ds i = some d) (s : S (.dat d)) : gIx x (.dat (.int i)) S := .inl ⟨_, _, _, hx, rfl, h, s⟩
theorem gIx_s {i : Int} {z : Str} {c : Nat} (hz : z.length ≤ sizeLine) (h : atI (tl z) i = some c) (s : S (.dat (.str ⟨#[c]⟩))) : gIx (.dat (.str z)) (.dat (.int i)) S := .inr ⟨_, _, _, rfl, rfl, hz, h, s⟩
instance : WR K (rIx K) gIx := ⟨fun hK h => by
  subst hK
  rcases h with ⟨ds, d, i, e1, e2, e3, s⟩ | ⟨z, c, i, e1, e2, hz, e3, s⟩
  · subst e2; exact (k_ix e1 e3).imp fun k h => h ▸ s
  · subst e1 e2; exact (k_ixS hz e3).imp fun k h => h ▸ s⟩
def gNeg (x : Kd) (S : Kd → Prop) : Prop := ∃ i : Int, x = .dat (.int i) ∧ S (.dat (.int (-i)))
theorem gNeg_i {i : Int} : gNeg (.dat (.int i)) S ↔ S (.dat (.int (-i))) := ⟨fun ⟨_, e1, h⟩ => by cases e1; exact h, fun h => ⟨_, rfl, h⟩⟩
instance {fa : XF} [a : WE K E ta fa] : WE K E (tUn rNegI ta) (fun C ρ S => fa C ρ fun x => gNeg x S) := ⟨fun hK hE h => e_negS (a.ok hK hE h) fun _ s => s⟩
/-! argument lists, tuples, lists -/
instance : WA K E tNil (fun _ _ S => S []) := ⟨fun _ _ s => fun σ H r Q q => q _ [] H s (R.refl r.j) .nil⟩
instance {fa : XF} {f : Ct → List Kd → (List Kd → Prop) → Prop} [a : WE K E ta fa] [b : WA K E al f] : WA K E (tCons ta al) (fun C ρ S => fa C ρ fun k => f C ρ fun ks => S (k :: ks)) := ⟨fun hK hE h => fun σ H rp Q q =>
  a.ok hK hE h σ H rp _ fun k v H1 s1 r1 o1 => b.ok hK hE s1 σ H1 (rp.up r1) _ fun ks vs H2 s2 r2 o2 => q _ _ H2 s2 (r1.trans r2) (.cons (o1.up rp r2) (o2.back rp.ok r1))⟩
/-- data, new lists taken as data -/
def datF : List Kd → Option (List PyData)
  | [] => some []
  | .dat d :: r => (datF r).map (d :: ·)
  | .new es :: r => (datF r).map (.list es :: ·)
  | _ => none
theorem VsOk.datF : ∀ {vs : List V} {ks : List Kd} {ds : List PyData}, Rep C σ Hs ρ → R C Hs H → VsOk C ρ Hs H vs ks → datF ks = some ds → DpAll C.K (msk C ρ H) vs ds
  | _, _, _, _, _, .nil, e => by
    cases e
    exact .nil
  | _, _, _, rp, q, .cons (k := k) (ks := ks) h a, e => by
    cases k with
    | dat d =>
      cases w : Mh.datF ks with
      | none => simp [Mh.datF, w] at e
      | some r =>
        simp [Mh.datF, w] at e
        subst e
        exact .cons h (VsOk.datF rp q a w)
    | new es =>
      cases w : Mh.datF ks with
      | none => simp [Mh.datF, w] at e
      | some r =>
        simp [Mh.datF, w] at e
        subst e
        exact .cons (VOk.frz rp q h) (VsOk.datF rp q a w)
    | _ => simp [Mh.datF] at e
def gTupK (ks : List Kd) (S : Kd → Prop) : Prop := ∃ ds, datF ks = some ds ∧ ds.length ≤ sizeLine ∧ S (.dat (.tuple ds))
def gLstK (ks : List Kd) (S : Kd → Prop) : Prop := ∃ ds, datF ks = some ds ∧ ds.length ≤ sizeLine ∧ S (.new ds)
theorem gTupK_of {ks : List Kd} (h : datF ks = some ds) (hz : ds.length ≤ sizeLine) (s : S (.dat (.tuple ds))) : gTupK ks S := ⟨_, h, hz, s⟩
theorem gLstK_of {ks : List Kd} (h : datF ks = some ds) (hz : ds.length ≤ sizeLine) (s : S (.new ds)) : gLstK ks S := ⟨_, h, hz, s⟩
instance {f : Ct → List Kd → (List Kd → Prop) → Prop} [b : WA K E al f] : WE K E (tTup al) (fun C ρ S => f C ρ fun ks => gTupK ks S) := ⟨fun hK hE h => fun σ H rp Q q =>
  b.ok hK hE h σ H rp _ fun ks vs H1 s1 r1 o1 => by
    obtain ⟨ds, e, hz, s2⟩ := s1
    have ha := o1.datF rp r1 e
    refine ⟨by rw [ha.length]; exact hz, fun p hp => ?_⟩
    obtain ⟨q1, q2⟩ := (rp.up r1).newT hp ha
    exact q _ _ _ s2 (r1.trans q1) q2⟩
instance {f : Ct → List Kd → (List Kd → Prop) → Prop} [b : WA K E al f] : WE K E (tLst al) (fun C ρ S => f C ρ fun ks => gLstK ks S) := ⟨fun hK hE h => fun σ H rp Q q =>
  b.ok hK hE h σ H rp _ fun ks vs H1 s1 r1 o1 => by
    obtain ⟨ds, e, hz, s2⟩ := s1
    have ha := o1.datF rp r1 e
    refine ⟨by rw [ha.length]; exact hz, fun p hp => ?_⟩
    obtain ⟨q1, q2⟩ := (rp.up r1).newL hp ha
    exact q _ _ _ s2 (r1.trans q1) (q2.back rp.ok r1)⟩
/-! parts -/
instance : WO K E tNoPart (fun _ _ S => S none) := ⟨fun _ _ s => fun σ H r Q q => q _ H s (R.refl r.j)⟩
def gPart (k : Kd) (S : Option Int → Prop) : Prop := ∃ i : Int, k = .dat (.int i) ∧ S (some i)
theorem gPart_i {i : Int} {S : Option Int → Prop} : gPart (.dat (.int i)) S ↔ S (some i) := ⟨fun ⟨_, e1, h⟩ => by cases e1; exact h, fun h => ⟨_, rfl, h⟩⟩
instance {fa : XF} [a : WE K E ta fa] : WO K E (tPart ta) (fun C ρ S => fa C ρ fun k => gPart k S) := ⟨fun hK hE h => fun σ H rp Q q => a.ok hK hE h σ H rp _ fun k v H1 s1 r1 o1 => by
  obtain ⟨i, rfl, s⟩ := s1
  exact ⟨i, dp_int o1, q _ H1 s r1⟩⟩
def gSl (k : Kd) (lo hi : Option Int) (S : Kd → Prop) : Prop := (∃ z : Str, k = .dat (.str z) ∧ z.length ≤ sizeLine ∧ S (.dat (.str (cutS z lo hi)))) ∨ (∃ ds, k = .dat (.tuple ds) ∧ S (.dat (.tuple (cutD ds lo hi)))) ∨ ∃ ds, datK k = some (.list ds) ∧ S (.new (cutD ds lo hi))
theorem gSl_s {z : Str} {lo hi : Option Int} : gSl (.dat (.str z)) lo hi S ↔ (z.length ≤ sizeLine ∧ S (.dat (.str (cutS z lo hi)))) := by unfold gSl; simp [datK]
theorem gSl_t {lo hi : Option Int} : gSl (.dat (.tuple ds)) lo hi S ↔ S (.dat (.tuple (cutD ds lo hi))) := by unfold gSl; simp [datK]
theorem gSl_o {lo hi : Option Int} : gSl (.own l ds) lo hi S ↔ S (.new (cutD ds lo hi)) := by unfold gSl; simp [datK]
theorem gSl_n {lo hi : Option Int} : gSl (.new ds) lo hi S ↔ S (.new (cutD ds lo hi)) := by unfold gSl; simp [datK]
theorem gSl_l {lo hi : Option Int} : gSl (.dat (.list ds)) lo hi S ↔ S (.new (cutD ds lo hi)) := by unfold gSl; simp [datK]
instance {fa : XF} {f1 f2 : Ct → List Kd → (Option Int → Prop) → Prop} {tlo thi : TO} [a : WE K E ta fa] [b : WO K E tlo f1] [c : WO K E thi f2] : WE K E (tSl (rSlP K) ta tlo thi) (fun C ρ S => fa C ρ fun k => f1 C ρ fun lo => f2 C ρ fun hi => gSl k lo hi S) :=
  ⟨fun {C ρ S} hK hE h => fun σ H rp Q q => by
    subst hK
    refine a.ok rfl hE h σ H rp _ fun k v H1 s1 r1 o1 => b.ok rfl hE s1 σ H1 (rp.up r1) _ fun lo H2 s2 r2 => c.ok rfl hE s2 σ H2 (rp.up (r1.trans r2)) _ fun hi H3 s3 r3 => ?_
    have r0 := (r1.trans r2).trans r3
    have o3 : VOk C ρ H H3 v k := o1.up rp (r2.trans r3)
    -- the part read at the end
    have one : E1 C (fun _ H' Q => H' = H → Q v H3) ρ k := fun σ' H' r' Q' q' e => by
      subst e
      exact q' k v H3 rfl r0 o3
    have lo1 : EO C (fun _ H' (Q : Option Int → Hp → Prop) => Q lo H') ρ lo := fun σ' H' r' Q' q' => q' H' (R.refl r'.j)
    have hi1 : EO C (fun _ H' (Q : Option Int → Hp → Prop) => Q hi H') ρ hi := fun σ' H' r' Q' q' => q' H' (R.refl r'.j)
    have fin : ∀ k', E1 C (tSl (rSlP C.K) (fun _ H' Q => H' = H → Q v H3) (fun _ H' Q => Q lo H') fun _ H' Q => Q hi H') ρ k' → S k' → rSlP C.K v lo hi H3 Q := fun k' h1 sk => h1 σ H rp Q (fun k2 v2 H4 e r4 o4 => q k2 v2 H4 (e ▸ sk) r4 o4) rfl
    rcases s3 with ⟨z, e, hz, s⟩ | ⟨ds, e, s⟩ | ⟨ds, e, s⟩
    · subst e
      exact fin _ (e_slS one lo1 hi1 hz) s
    · subst e
      exact fin _ (e_slT one lo1 hi1) s
    · exact fin _ (e_slL one lo1 hi1 e) s⟩
/-! built-ins -/
instance {r : List V → Hp → VK → Prop} {f : Ct → List Kd → (List Kd → Prop) → Prop} {g : List Kd → (Kd → Prop) → Prop} [b : WA K E al f] [o : WB K r g] : WE K E (tCB r al) (fun C ρ S => f C ρ fun ks => g ks S) := ⟨fun hK hE h => e_cb (b.ok hK hE h) fun ks s => o.ok hK s⟩
def gLen (ks : List Kd) (S : Kd → Prop) : Prop := (∃ k ds, ks = [k] ∧ seqK k = some ds ∧ S (.dat (.int ds.length))) ∨ ∃ z : Str, ks = [.dat (.str z)] ∧ z.length ≤ sizeLine ∧ S (.dat (.int z.length))
theorem gLen_of (e : seqK k = some ds) (h : S (.dat (.int ds.length))) : gLen [k] S := .inl ⟨_, _, rfl, e, h⟩
theorem gLen_s {z : Str} : gLen [.dat (.str z)] S ↔ (z.length ≤ sizeLine ∧ S (.dat (.int z.length))) := by unfold gLen; simp [seqK]
theorem gLen_t : gLen [.dat (.tuple ds)] S ↔ S (.dat (.int ds.length)) := by unfold gLen; simp [seqK]
theorem gLen_l : gLen [.dat (.list ds)] S ↔ S (.dat (.int ds.length)) := by unfold gLen; simp [seqK]
theorem gLen_o : gLen [.own l ds] S ↔ S (.dat (.int ds.length)) := by unfold gLen; simp [seqK]
theorem gLen_n : gLen [.new ds] S ↔ S (.dat (.int ds.length)) := by unfold gLen; simp [seqK]
instance : WB K (rLenP K) gLen := ⟨fun hK h => by
  subst hK
  rcases h with ⟨k, ds, e, e1, s⟩ | ⟨z, e, hz, s⟩
  · subst e; exact fun σ Hs H vs a b c d Q q => c_len e1 σ Hs H vs a b c d Q fun k u H' hk => q k u H' (hk ▸ s)
  · subst e; exact fun σ Hs H vs a b c d Q q => c_lenS hz σ Hs H vs a b c d Q fun k u H' hk => q k u H' (hk ▸ s)⟩
theorem CbK.imp {r : List V → Hp → VK → Prop} {ks : List Kd} (h : CbK C ρ r ks S1) (s : ∀ k, S1 k → S2 k) : CbK C ρ r ks S2 := fun σ Hs H vs a b c d Q q => h σ Hs H vs a b c d Q fun k u H' hk => q k u H' (s k hk)
def gInt (ks : List Kd) (S : Kd → Prop) : Prop := (∃ i : Int, ks = [.dat (.int i)] ∧ S (.dat (.int i))) ∨ ∃ (z : Str) (n : Int), ks = [.dat (.str z)] ∧ PySem.intText? z = some n ∧ z.length ≤ 640 ∧ S (.dat (.int n))
theorem gInt_i {i : Int} : gInt [.dat (.int i)] S ↔ S (.dat (.int i)) := by unfold gInt; simp
theorem gInt_s {z : Str} {n : Int} (h1 : PySem.intText? z = some n) (hz : z.length ≤ 640) (s : S (.dat (.int n))) : gInt [.dat (.str z)] S := .inr ⟨_, _, rfl, h1, hz, s⟩
instance : WB K rIntP gInt := ⟨fun _ h => by
  rcases h with ⟨i, e, s⟩ | ⟨z, n, e, h1, h2, s⟩
  · subst e; exact c_int.imp fun k h => h ▸ s
  · subst e; exact (c_intS h1 h2).imp fun k h => h ▸ s⟩
def gStr (ks : List Kd) (S : Kd → Prop) : Prop := ∃ i : Int, ks = [.dat (.int i)] ∧ i.natAbs.log2 < 1920 ∧ S (.dat (.str (toString i)))
theorem gStr_i {i : Int} : gStr [.dat (.int i)] S ↔ (i.natAbs.log2 < 1920 ∧ S (.dat (.str (toString i)))) := by unfold gStr; simp
instance : WB K rStrP gStr := ⟨fun _ ⟨i, e, h, s⟩ => by subst e; exact (c_str h).imp fun k h => h ▸ s⟩
def gTupC (ks : List Kd) (S : Kd → Prop) : Prop := (∃ k ds, ks = [k] ∧ datK k = some (.list ds) ∧ S (.dat (.tuple ds))) ∨ ∃ ds, ks = [.dat (.tuple ds)] ∧ S (.dat (.tuple ds))
theorem gTupC_n : gTupC [.new ds] S ↔ S (.dat (.tuple ds)) := by unfold gTupC; simp [datK]
theorem gTupC_o : gTupC [.own l ds] S ↔ S (.dat (.tuple ds)) := by unfold gTupC; simp [datK]
theorem gTupC_l : gTupC [.dat (.list ds)] S ↔ S (.dat (.tuple ds)) := by unfold gTupC; simp [datK]
theorem gTupC_t : gTupC [.dat (.tuple ds)] S ↔ S (.dat (.tuple ds)) := by unfold gTupC; simp [datK]
instance : WB K (rTupP K) gTupC := ⟨fun hK h => by
  subst hK
  rcases h with ⟨k, ds, e, e1, s⟩ | ⟨ds, e, s⟩
  · subst e; exact (c_tupL e1).imp fun k h => h ▸ s
  · subst e
    exact fun σ Hs H vs _ q r o Q g => by
      obtain ⟨v, rfl, o1⟩ := o.one
      have o2 := o1
      obtain ⟨a, xs, rfl, h1, h2⟩ := dp_tup o1
      exact ⟨a, xs, rfl, .inr ⟨Ext.t msk_le h1, g _ _ _ s (R.refl r.j) o2⟩⟩⟩
def gLstC (ks : List Kd) (S : Kd → Prop) : Prop := ∃ k ds, ks = [k] ∧ seqK k = some ds ∧ S (.new ds)
theorem gLstC_of (e : seqK k = some ds) (s : S (.new ds)) : gLstC [k] S := ⟨_, _, rfl, e, s⟩
instance : WB K (rLstP K) gLstC := ⟨fun hK ⟨k, ds, e, e1, s⟩ => by subst hK e; exact (c_lst e1).imp fun k h => h ▸ s⟩
def gII2 (f : Int → Int → Int) (ks : List Kd) (S : Kd → Prop) : Prop := ∃ i j : Int, ks = [.dat (.int i), .dat (.int j)] ∧ S (.dat (.int (f i j)))
theorem gII2_i {f : Int → Int → Int} {i j : Int} : gII2 f [.dat (.int i), .dat (.int j)] S ↔ S (.dat (.int (f i j))) := ⟨fun ⟨_, _, e1, h⟩ => by cases e1; exact h, fun h => ⟨_, _, rfl, h⟩⟩
instance : WB K rMin2 (gII2 fun i j => if j < i then j else i) := ⟨fun _ ⟨i, j, e, s⟩ => by subst e; exact c_min.imp fun k h => h ▸ s⟩
instance : WB K rMax2 (gII2 fun i j => if j > i then j else i) := ⟨fun _ ⟨i, j, e, s⟩ => by subst e; exact c_max.imp fun k h => h ▸ s⟩
def gAbs (ks : List Kd) (S : Kd → Prop) : Prop := ∃ i : Int, ks = [.dat (.int i)] ∧ S (.dat (.int (if i < 0 then -i else i)))
instance : WB K rAbs gAbs := ⟨fun _ ⟨i, e, s⟩ => by subst e; exact c_abs.imp fun k h => h ▸ s⟩
def gIsi (n : String) (x : Kd) (S : Kd → Prop) : Prop := ∃ T b, tyK x = some T ∧ kitB T n = some b ∧ S (.dat (.bool b))
theorem gIsi_of {n T : String} {b : Bool} (h1 : tyK x = some T) (h2 : kitB T n = some b) (s : S (.dat (.bool b))) : gIsi n x S := ⟨_, _, h1, h2, s⟩
instance {fa : XF} {n : String} [a : WE K E ta fa] : WE K E (tCB (rIsi K) (tCons ta (tCons (tC (.ty n)) tNil))) (fun C ρ S => fa C ρ fun x => gIsi n x S) := ⟨fun hK hE h => fun σ H rp Q q => by
  subst hK
  refine a.ok rfl hE h σ H rp _ fun k v H1 s1 r1 o1 => ?_
  obtain ⟨T, b, e, hb, s⟩ := s1
  exact ⟨v, .ty n, .type T, .type n, b, rfl, .ty n, o1.ty e, kit_ty hb, q _ _ _ s r1 (.bl _)⟩⟩
/-! tests -/
def gB (k : Kd) (S : Bool → Prop) : Prop := ∃ b, k = .dat (.bool b) ∧ S b
theorem gB_b {b : Bool} {S : Bool → Prop} : gB (.dat (.bool b)) S ↔ S b := ⟨fun ⟨_, e, h⟩ => by cases e; exact h, fun h => ⟨_, rfl, h⟩⟩
def gTr (k : Kd) (S : Bool → Prop) : Prop := ∃ b, bK k = some b ∧ S b
theorem gTr_b {b : Bool} {S : Bool → Prop} : gTr (.dat (.bool b)) S ↔ S b := by unfold gTr; simp [bK]
theorem gTr_of {b : Bool} {S : Bool → Prop} (h : bK k = some b) (s : S b) : gTr k S := ⟨_, h, s⟩
instance {fa : XF} [a : WE K E ta fa] : WT K E (tTest ta) (fun C ρ S => fa C ρ fun k => gB k S) := ⟨fun hK hE h => t_testS (a.ok hK hE h) fun _ s => s⟩
instance {fa : XF} [a : WE K E ta fa] : WT K E (tTru K ta) (fun C ρ S => fa C ρ fun k => gTr k S) := ⟨fun hK hE h => by subst hK; exact t_truS (b := true) (a.ok rfl hE h) fun _ s => s⟩
instance {fa : XF} [a : WE K E ta fa] : WT K E (tB ta) (fun C ρ S => fa C ρ fun k => gB k S) := ⟨fun hK hE h => fun σ H rp Q q => a.ok hK hE h σ H rp _ fun k' v H1 s1 r1 o1 => by
  obtain ⟨b, rfl, p⟩ := s1
  exact ⟨b, dp_bl o1, q b H1 p r1⟩⟩
abbrev WTf := Ct → List Kd → (Bool → Prop) → Prop
instance {f : WTf} [a : WT K E tt f] : WT K E (tNot tt) (fun C ρ S => f C ρ fun b => S (!b)) := ⟨fun hK hE h => t_notS (a.ok hK hE h) fun _ s => s⟩
def gIf (b : Bool) (A B : Prop) : Prop := (b = true → A) ∧ (b = false → B)
theorem gIf_t {A B : Prop} : gIf true A B ↔ A := by simp [gIf]
theorem gIf_f {A B : Prop} : gIf false A B ↔ B := by simp [gIf]
instance {f g : WTf} [a : WT K E tt f] [b : WT K E tu g] : WT K E (tAnd tt tu) (fun C ρ S => f C ρ fun x => gIf x (g C ρ S) (S false)) := ⟨fun hK hE h => t_andS (a.ok hK hE h) (fun s => b.ok hK hE (s.1 rfl)) (fun s => s.2 rfl) fun _ _ s => s⟩
instance {f g : WTf} [a : WT K E tt f] [b : WT K E tu g] : WT K E (tOr tt tu) (fun C ρ S => f C ρ fun x => gIf x (S true) (g C ρ S)) := ⟨fun hK hE h => t_orS (a.ok hK hE h) (fun s => b.ok hK hE (s.2 rfl)) (fun s => s.1 rfl) fun _ _ s => s⟩
instance : WT K E tYes (fun _ _ S => S true) := ⟨fun _ _ s => fun σ H r Q q => q true H s (R.refl r.j)⟩
/-! values by tests -/
instance {fa fb : XF} [a : WE K E ta fa] [b : WE K E tb fb] : WE K E (tAndV ta tb) (fun C ρ S => fa C ρ fun k => gB k fun x => gIf x (fb C ρ S) (S (.dat (.bool false)))) := ⟨fun hK hE h => fun σ H rp Q q => a.ok hK hE h σ H rp _ fun k v H1 s1 r1 o1 => by
  obtain ⟨c, rfl, s⟩ := s1
  refine ⟨c, dp_bl o1, ?_⟩
  cases c with
  | false => exact q _ _ H1 (s.2 rfl) r1 (.bl _)
  | true => exact b.ok hK hE (s.1 rfl) σ H1 (rp.up r1) Q fun k2 v2 H2 s2 r2 o2 => q k2 v2 H2 s2 (r1.trans r2) (o2.back rp.ok r1)⟩
instance {fa fb : XF} [a : WE K E ta fa] [b : WE K E tb fb] : WE K E (tOrV ta tb) (fun C ρ S => fa C ρ fun k => gB k fun x => gIf x (S (.dat (.bool true))) (fb C ρ S)) := ⟨fun hK hE h => fun σ H rp Q q => a.ok hK hE h σ H rp _ fun k v H1 s1 r1 o1 => by
  obtain ⟨c, rfl, s⟩ := s1
  refine ⟨c, dp_bl o1, ?_⟩
  cases c with
  | true => exact q _ _ H1 (s.1 rfl) r1 (.bl _)
  | false => exact b.ok hK hE (s.2 rfl) σ H1 (rp.up r1) Q fun k2 v2 H2 s2 r2 o2 => q k2 v2 H2 s2 (r1.trans r2) (o2.back rp.ok r1)⟩
instance {fa : XF} [a : WE K E ta fa] : WE K E (tNotT K ta) (fun C ρ S => fa C ρ fun k => gTr k fun b => S (.dat (.bool (!b)))) := ⟨fun hK hE h => fun σ H rp Q q => by
  subst hK
  refine a.ok rfl hE h σ H rp _ fun k v H1 s1 r1 o1 => ?_
  obtain ⟨b, e, s⟩ := s1
  exact ⟨b, o1.tru e, q _ _ H1 s r1 (.bl _)⟩⟩
instance {f : WTf} {fa fb : XF} [a : WT K E tt f] [b : WE K E ta fa] [c : WE K E tb fb] : WE K E (tIf tt ta tb) (fun C ρ S => f C ρ fun x => gIf x (fa C ρ S) (fb C ρ S)) := ⟨fun hK hE h => e_if (a.ok hK hE h) (fun s => b.ok hK hE (s.1 rfl)) fun s => c.ok hK hE (s.2 rfl)⟩
/-- x op y op' z -/
instance {r r' : R2} {fa fb fc : XF} {g g' : Kd → Kd → (Kd → Prop) → Prop} [a : WE K E ta fa] [b : WE K E tb fb] [c : WE K E tc fc] [o : WR K r g] [o' : WR K r' g'] : WE K E (tChain r r' ta tb tc) (fun C ρ S => fa C ρ fun x => fb C ρ fun y => g x y fun z => gB z fun q => gIf q (fc C ρ fun w => g' y w S) (S (.dat (.bool false)))) :=
  ⟨fun hK hE h => fun σ H rp Q q => a.ok hK hE h σ H rp _ fun x v H1 s1 r1 o1 => b.ok hK hE s1 σ H1 (rp.up r1) _ fun y w H2 s2 r2 o2 =>
    o.ok hK s2 σ H H2 v w rp (r1.trans r2) (rp.up (r1.trans r2)) (o1.up rp r2) (o2.back rp.ok r1) _ fun k u H3 s3 r3 o3 => by
      obtain ⟨bb, rfl, s4⟩ := s3
      refine ⟨bb, dp_bl o3, ?_⟩
      have r13 := (r1.trans r2).trans r3
      cases bb with
      | false => exact q _ _ H3 (s4.2 rfl) r13 (.bl _)
      | true =>
        refine c.ok hK hE (s4.1 rfl) σ H3 (rp.up r13) _ fun w' u' H4 s5 r4 o5 => ?_
        have r14 := r13.trans r4
        exact o'.ok hK s5 σ H H4 w u' rp r14 (rp.up r14) ((o2.up (rp.up r1) (r3.trans r4)).back rp.ok r1) (o5.back rp.ok r13) Q fun k6 u6 H6 s6 r6 o6 => q k6 u6 H6 s6 (r14.trans r6) (o6.back rp.ok r14)⟩
/-! join, split -/
def gJoin (z : Str) (y : Kd) (S : Kd → Prop) : Prop := ∃ zs : List Str, seqK y = some (zs.map .str) ∧ (zs.map (·.length)).sum + zs.length * z.length ≤ 16777216 ∧ S (.dat (.str (Txt.join z zs)))
theorem gJoin_of {z : Str} {zs : List Str} (e : seqK y = some (zs.map .str)) (h : (zs.map (·.length)).sum + zs.length * z.length ≤ 16777216) (s : S (.dat (.str (Txt.join z zs)))) : gJoin z y S := ⟨_, e, h, s⟩
def gTx (x : Kd) (S : Str → Prop) : Prop := ∃ z, x = .dat (.str z) ∧ S z
theorem gTx_s {z : Str} {S : Str → Prop} : gTx (.dat (.str z)) S ↔ S z := ⟨fun ⟨_, e, h⟩ => by cases e; exact h, fun h => ⟨_, rfl, h⟩⟩
instance {fa fb : XF} [a : WE K E ta fa] [b : WE K E tb fb] : WE K E (tM1 (rJoin K) ta tb) (fun C ρ S => fa C ρ fun x => gTx x fun z => fb C ρ fun y => gJoin z y S) := ⟨fun hK hE h => fun σ H rp Q q => by
  subst hK
  refine a.ok rfl hE h σ H rp _ fun k1 v H1 s1 r1 o1 => ?_
  obtain ⟨z, rfl, s2⟩ := s1
  obtain rfl := dp_str o1
  refine ⟨⟨z, rfl⟩, b.ok rfl hE s2 σ H1 (rp.up r1) _ fun k2 w H2 s3 r2 o2 => ?_⟩
  obtain ⟨zs, e, hz, s⟩ := s3
  obtain ⟨a, rfl, h3⟩ := o2.strs e
  exact ⟨z, a, zs, rfl, rfl, h3, hz, q _ _ _ s (r1.trans r2) (.str _)⟩⟩
def gSplit (z : Str) (y : Kd) (S : Kd → Prop) : Prop := ∃ b : Str, y = .dat (.str b) ∧ (b.length == 0) = false ∧ z.length + 2 ≤ sizeLine ∧ S (.new ((Txt.split z b).map .str))
theorem gSplit_s {z b : Str} : gSplit z (.dat (.str b)) S ↔ ((b.length == 0) = false ∧ z.length + 2 ≤ sizeLine ∧ S (.new ((Txt.split z b).map .str))) := ⟨fun ⟨_, e, h⟩ => by cases e; exact h, fun h => ⟨_, rfl, h⟩⟩
instance {fa fb : XF} [a : WE K E ta fa] [b : WE K E tb fb] : WE K E (tM1 rSplit ta tb) (fun C ρ S => fa C ρ fun x => gTx x fun z => fb C ρ fun y => gSplit z y S) := ⟨fun hK hE h => fun σ H rp Q q => by
  subst hK
  refine a.ok rfl hE h σ H rp _ fun k1 v H1 s1 r1 o1 => ?_
  obtain ⟨z, rfl, s2⟩ := s1
  obtain rfl := dp_str o1
  refine ⟨⟨z, rfl⟩, b.ok rfl hE s2 σ H1 (rp.up r1) _ fun k2 w H2 s3 r2 o2 => ?_⟩
  obtain ⟨y, rfl, hy, hz, s⟩ := s3
  obtain rfl := dp_str o2
  refine ⟨z, y, rfl, rfl, hy, hz, fun p hp => ?_⟩
  obtain ⟨q1, q2⟩ := (rp.up (r1.trans r2)).newL hp (DpAll.of_strs (Txt.split z y))
  exact q _ _ _ s ((r1.trans r2).trans q1) (q2.back rp.ok (r1.trans r2))⟩
/-! ### calls -/
def argF (fr : Bool) : Kd → Option Kd
  | .dat d => match fr with
    | true => match nl d with
      | true => some (.dat d)
      | false => none
    | false => some (.dat d)
  | .own _ ds => match fr with
    | true => none
    | false => some (.dat (.list ds))
  | .new ds => match fr with
    | true => none
    | false => some (.dat (.list ds))
  | _ => none
def argsF (fr : Bool) : List Kd → Option (List Kd)
  | [] => some []
  | k :: r => match argF fr k, argsF fr r with
    | some a, some b => some (a :: b)
    | _, _ => none
theorem argF_ok {fr : Bool} {a b : Kd} (h : argF fr a = some b) : ArgK fr a b := by
  cases a with
  | dat d =>
    cases fr with
    | false => cases h; exact .dat fun z => by cases z
    | true =>
      cases n : nl d with
      | false => simp [argF, n] at h
      | true =>
        simp only [argF, n, Option.some.injEq] at h
        subst h
        exact .dat fun _ => n
  | own l ds =>
    cases fr with
    | false => cases h; exact .own rfl
    | true => cases h
  | new ds =>
    cases fr with
    | false => cases h; exact .new rfl
    | true => cases h
  | _ => cases h
theorem argsF_ok {fr : Bool} : ∀ {ks ks' : List Kd}, argsF fr ks = some ks' → ArgsK fr ks ks'
  | [], _, h => by
    cases h
    exact .nil
  | k :: r, ks', h => by
    unfold argsF at h
    cases h1 : argF fr k with
    | none => simp [h1] at h
    | some a =>
      cases h2 : argsF fr r with
      | none => simp [h1, h2] at h
      | some b =>
        simp only [h1, h2, Option.some.injEq] at h
        subst h
        exact .cons (argF_ok h1) (argsF_ok h2)
/-- a pure def that raises nothing -/
def gCall (A : At) (ks : List Kd) (S : Kd → Prop) : Prop := ∃ ks' S', ArgsK false ks ks' ∧ A ks' S' noZ ∧ ∀ k, S' k → S k
theorem gCall_of {A : At} {ks ks' : List Kd} {S' : Kd → Prop} (h : argsF false ks = some ks') (a : A ks' S' noZ) (s : ∀ k, S' k → S k) : gCall A ks S := ⟨_, _, argsF_ok h, a, s⟩
instance {A : At} {f : Ct → List Kd → (List Kd → Prop) → Prop} [b : WA K E al f] : WE K E (tCall (SpF K noF noJ false A) [] E0 al) (fun C ρ S => f C ρ fun ks => gCall A ks S) := ⟨fun hK hE h => by
  subst hK
  exact e_call (b.ok rfl hE h) (.inr ⟨rfl, rfl⟩) fun ks s => s⟩
/-- a pure def that may raise, where the def may raise so -/
def gCallZ (C : Ct) (A : At) (ks : List Kd) (S : Kd → Prop) : Prop := ∃ ks' S' Z', ArgsK false ks ks' ∧ A ks' S' Z' ∧ (∀ cls fs, Z' cls fs → C.Z cls fs) ∧ ∀ k, S' k → S k
theorem gCallZ_of {A : At} {ks ks' : List Kd} {S' : Kd → Prop} {Z' : Zt} (h : argsF false ks = some ks') (a : A ks' S' Z') (z : ∀ cls fs, Z' cls fs → C.Z cls fs) (s : ∀ k, S' k → S k) : gCallZ C A ks S := ⟨_, _, _, argsF_ok h, a, z, s⟩
instance {A : At} {f : Ct → List Kd → (List Kd → Prop) → Prop} [b : WA K E al f] : WE K E (tCall (SpF K noF noJ false A) [] E al) (fun C ρ S => f C ρ fun ks => gCallZ C A ks S) := ⟨fun hK hE h => by
  subst hK hE
  exact e_callZ (b.ok rfl rfl h) (.inr ⟨rfl, rfl⟩) (fun _ _ _ h => h) fun ks s => s⟩
/-- a law's def with the box -/
def gCallB (C : Ct) (A : Addr → At) (ks : List Kd) (S : Kd → Prop) : Prop := ∃ b, InB C b ∧ ∃ ks' S', ArgsK true ks ks' ∧ A b ks' S' noZ ∧ ∀ k, S' k → S k
theorem EA.and {S1 S2 : List Kd → Prop} (h : EA C al ρ S1) : EA C al ρ S1 := h
instance {A : Addr → At} {f : Ct → List Kd → (List Kd → Prop) → Prop} [b : WA K E al f] : WE K E (tCall (spB K A) [] E0 al) (fun C ρ S => f C ρ fun ks => gCallB C A ks S) := ⟨fun hK hE h => fun σ H rp Q q => by
  subst hK
  refine b.ok rfl hE h σ H rp _ fun ks vs H1 s1 r1 o1 => ?_
  obtain ⟨b, hb, ks', S', h1, h2, h3⟩ := s1
  -- the list told at the end
  have one : A1 _ (fun _ H' Q => H' = H → Q vs H1) _ ks := fun σ' H' r' Q' q' e => by
    subst e
    exact q' ks vs H1 rfl r1 o1
  exact e_callB (E := E0) hb one (fun ks2 e => by
    subst e
    exact ⟨ks', S', h1, h2, h3⟩) σ H rp Q q rfl⟩
/-! ### what is walked -/
def itD : Kd → Option (List PyData)
  | .dat (.list ds) => some ds
  | .dat (.tuple ds) => some ds
  | .own _ ds => some ds
  | .new ds => some ds
  | .dat (.str z) => some (signs z)
  | _ => none
theorem ei_any {te : TE} (h : E1 C te ρ k) (e : itD k = some ds) : EI C (iAny C.K te) ρ ds := by
  cases k with
  | dat d =>
    cases d with
    | list es => cases e; exact i_list h rfl
    | tuple es => cases e; exact i_tup h
    | str z => cases e; exact i_str h
    | _ => cases e
  | own l es => cases e; exact i_list h rfl
  | new es => cases e; exact i_list h rfl
  | _ => cases e
instance {fa : XF} [a : WE K E ta fa] : WI K E (iAny K ta) (fun C ρ S => fa C ρ fun k => ∃ ds, itD k = some ds ∧ S ds) := ⟨fun hK hE h => fun σ H rp W q => by
  subst hK
  refine a.ok rfl hE h σ H rp _ fun k v H1 s1 r1 o1 => ?_
  obtain ⟨ds, e, s⟩ := s1
  have one : E1 _ (fun _ H' Q => H' = H → Q v H1) _ k := fun σ' H' r' Q' q' e => by
    subst e
    exact q' k v H1 rfl r1 o1
  exact ei_any one e σ H rp W (fun J H' r2 y => q ds J H' s r2 y) rfl⟩
def gRng1 (k : Kd) (S : List PyData → Prop) : Prop := ∃ m : Int, k = .dat (.int m) ∧ -(2 ^ 62) ≤ m ∧ m < 2 ^ 62 ∧ S (intsL 0 m.toNat)
theorem gRng1_i {m : Int} {S : List PyData → Prop} : gRng1 (.dat (.int m)) S ↔ (-(2 ^ 62) ≤ m ∧ m < 2 ^ 62 ∧ S (intsL 0 m.toNat)) := ⟨fun ⟨_, e, h⟩ => by cases e; exact h, fun h => ⟨_, rfl, h⟩⟩
instance {fa : XF} [a : WE K E ta fa] : WI K E (iRng1 (tCons ta tNil)) (fun C ρ S => fa C ρ fun k => gRng1 k S) := ⟨fun hK hE h => i_rngS (a.ok hK hE h) fun _ s => s⟩
def gRng2 (x y : Kd) (S : List PyData → Prop) : Prop := ∃ a m : Int, x = .dat (.int a) ∧ y = .dat (.int m) ∧ (-(2 ^ 62) ≤ a ∧ a < 2 ^ 62) ∧ (-(2 ^ 62) ≤ m ∧ m < 2 ^ 62) ∧ S (intsL a (m - a).toNat)
theorem gRng2_i {a m : Int} {S : List PyData → Prop} : gRng2 (.dat (.int a)) (.dat (.int m)) S ↔ ((-(2 ^ 62) ≤ a ∧ a < 2 ^ 62) ∧ (-(2 ^ 62) ≤ m ∧ m < 2 ^ 62) ∧ S (intsL a (m - a).toNat)) := ⟨fun ⟨_, _, e, e2, h⟩ => by cases e; cases e2; exact h, fun h => ⟨_, _, rfl, rfl, h⟩⟩
instance {fa fb : XF} [a : WE K E ta fa] [b : WE K E tb fb] : WI K E (iRng2 (tCons ta (tCons tb tNil))) (fun C ρ S => fa C ρ fun x => fb C ρ fun y => gRng2 x y S) := ⟨fun hK hE h => fun σ H rp W q => a.ok hK hE h σ H rp _ fun k v H1 s1 r1 o1 => b.ok hK hE s1 σ H1 (rp.up r1) _ fun k2 v2 H2 s2 r2 o2 => by
  obtain ⟨a, m, rfl, rfl, h0, h1, s⟩ := s2
  obtain rfl := dp_int o1
  obtain rfl := dp_int o2
  exact ⟨a, m, rfl, ⟨h0.1, h0.2, h1.1, h1.2⟩, q _ _ H2 s (r1.trans r2) ity_r⟩⟩
/-! ### comprehensions -/
abbrev lcR (ρ : List Kd) (j : Nat) (a : PyData) : List Kd := (ρ.set j .un).set j (.dat a)
def gLc (j : Nat) (ρ : List Kd) (ft : List Kd → (Bool → Prop) → Prop) (fe : List Kd → (Kd → Prop) → Prop) (ds : List PyData) (S : Kd → Prop) : Prop :=
  notOwn ρ[j]? = true ∧ ds.length ≤ sizeLine ∧ ∃ I : Nat → List PyData → Prop, I 0 [] ∧ (∀ n acc, I n acc → acc.length ≤ n) ∧
    (∀ (n : Nat) a acc, ds[n]? = some a → I n acc → ft (lcR ρ j a) fun b => gIf b (fe (lcR ρ j a) (EltK fun d => I (n + 1) (acc ++ [d]))) (I (n + 1) acc)) ∧ ∀ acc, I ds.length acc → S (.new acc)
theorem EIS.one {wi : TI} {P : List PyData → Prop} (hw : EIS C wi ρ P) (h : ∀ ds (wi' : TI), P ds → EI C wi' ρ ds → EB C (tLc wi' (gName j) tt te [j]) ρ S) : EB C (tLc wi (gName j) tt te [j]) ρ S := e_lcS hw h
instance {fw : Ct → List Kd → (List PyData → Prop) → Prop} {f : WTf} {fe : XF} {wi : TI} [a : WI K E wi fw] [b : WT K E tt f] [c : WE K E te fe] : WE K E (tLc wi (gName j) tt te [j]) (fun C ρ S => fw C ρ fun ds => gLc j ρ (f C) (fe C) ds S) := ⟨fun {C ρ S} hK hE h =>
  EIS.one (a.ok hK hE h) fun ds wi' ⟨h1, h2, I, i0, il, it, ie⟩ hw => by
    have key := e_lcG (C := C) (T := fun n a acc b => gIf b (fe C (lcR ρ j a) (EltK fun d => I (n + 1) (acc ++ [d]))) (I (n + 1) acc)) hw h1 I i0 il h2 (fun n a' acc ea hi => b.ok hK hE (it n a' acc ea hi)) (fun n a' acc ea hi s => s.2 rfl) (fun n a' acc ea hi s => c.ok hK hE (s.1 rfl))
    exact key.imp fun k ⟨acc, e, i⟩ => e ▸ ie acc i⟩
end
end Mh
namespace Mh
open PySem PySem.Spec PyProof.Rows L2 TL
abbrev WSf := Ct → List Kd → Po → Prop
section
variable {K : PySem.W.Frag} {E : XK} {C : Ct} {σ : L2.St} {H H' H1 H2 Hs : Hp} {ρ : List Kd} {v : V} {k x y z : Kd} {l : Addr} {d e : PyData} {ds es : List PyData} {ta tb tc te : TE} {tt tu : TT} {ti : TI} {t u : TS} {al : TA} {i j n m : Nat} {S S1 S2 : Kd → Prop} {P P' : Po}
theorem dpall_set {K : PySem.W.Frag} {M : Hp} {v : V} {d : PyData} (hv : Dp K M v d) : ∀ {vs : List V} {ds : List PyData} {n : Nat}, DpAll K M vs ds → DpAll K M (vs.set n v) (ds.set n d)
  | _, _, _, .nil => .nil
  | _, _, 0, .cons h a => .cons hv a
  | _, _, n + 1, .cons h a => .cons h (dpall_set hv a)
instance : WS K E tNext (fun _ ρ P => P.nx ρ) := ⟨fun _ _ h => b_next h⟩
instance : WS K E tBreak (fun _ ρ P => P.bk ρ) := ⟨fun _ _ h => b_break h⟩
instance : WS K E tCont (fun _ ρ P => P.ct ρ) := ⟨fun _ _ h => b_cont h⟩
instance {f g : WSf} [a : WS K E t f] [b : WS K E u g] : WS K E (tSeq t u) (fun C ρ P => f C ρ { P with nx := fun r => g C r P }) := ⟨fun {C ρ P} hK hE h => fun σ H r D pd => a.ok hK hE h σ H r { D with nx := u D } ⟨fun ρ' σ' H' m r' => b.ok hK hE m σ' H' r' D pd, pd.rt, pd.bk, pd.ct⟩⟩
instance {fa : XF} [a : WE K E ta fa] : WS K E (tAsg ta (gName i)) (fun C ρ P => fa C ρ fun k => NxA P.nx ρ i k) := ⟨fun hK hE h => b_asg (a.ok hK hE h) fun _ s => s⟩
instance {fa : XF} [a : WE K E ta fa] : WS K E (tDrop ta) (fun C ρ P => fa C ρ fun _ => P.nx ρ) := ⟨fun hK hE h => fun σ H r D pd => a.ok hK hE h σ H r _ fun k v H' s1 r1 o1 => pd.nx _ σ H' s1 (r.up r1)⟩
instance {fa : XF} [a : WE K E ta fa] : WS K E (tRet ta) (fun C ρ P => fa C ρ fun k => RtK C P.rt k) := ⟨fun hK hE h => b_retS (a.ok hK hE h) fun _ s => s⟩
instance : WS K E tRetN (fun _ _ P => P.rt (.dat .none)) := ⟨fun _ _ h => b_retN h⟩
instance {f : WTf} {g h : WSf} [a : WT K E tt f] [b : WS K E t g] [c : WS K E u h] : WS K E (tIfS tt t u) (fun C ρ P => f C ρ fun x => gIf x (g C ρ P) (h C ρ P)) := ⟨fun hK hE w => b_if (a.ok hK hE w) (fun s => b.ok hK hE (s.1 rfl)) fun s => c.ok hK hE (s.2 rfl)⟩
/-- a while loop: an invariant over a measure -/
def gWh (ft : List Kd → (Bool → Prop) → Prop) (fb : List Kd → Po → Prop) (ρ : List Kd) (P : Po) : Prop :=
  ∃ I : Nat → List Kd → Prop, (∃ m, I m ρ) ∧ ∀ m ρ, I m ρ → ft ρ fun b => gIf b (fb ρ { nx := fun r => ∃ m', m' < m ∧ I m' r, ct := fun r => ∃ m', m' < m ∧ I m' r, bk := P.nx, rt := P.rt }) (P.nx ρ)
instance {f : WTf} {g : WSf} [a : WT K E tt f] [b : WS K E t g] : WS K E (tWhile tt t) (fun C ρ P => gWh (f C) (g C) ρ P) := ⟨fun {C ρ P} hK hE h => fun σ H r D pd => by
  obtain ⟨I, ⟨m, h0⟩, hi⟩ := h
  refine ⟨fun m σ H => ∃ ρ, I m ρ ∧ Rep C σ H ρ, ⟨m, ρ, h0, r⟩, ?_⟩
  rintro m σ H ⟨ρ, hI, r⟩
  refine a.ok hK hE (hi m ρ hI) σ H r _ fun b' H' s1 r1 => ?_
  cases b' with
  | false => exact pd.nx ρ σ H' (s1.2 rfl) (r.up r1)
  | true =>
    refine ⟨fun σ' H' => ∃ m', m' < m ∧ ∃ ρ, I m' ρ ∧ Rep C σ' H' ρ, fun σ' H' z => z, ?_⟩
    exact b.ok hK hE (s1.1 rfl) σ H' (r.up r1) _ ⟨fun ρ σ H ⟨m', h1, h2⟩ r => ⟨m', h1, ρ, h2, r⟩, pd.rt, fun ρ σ H z r => pd.nx ρ σ H z r, fun ρ σ H ⟨m', h1, h2⟩ r => ⟨m', h1, ρ, h2, r⟩⟩⟩
/-- for over a list, a tuple -/
def itF : Kd → Option (List PyData)
  | .dat (.list ds) => some ds
  | .dat (.tuple ds) => some ds
  | .new ds => some ds
  | _ => none
def gFor (j : Nat) (fb : Ct → List Kd → Po → Prop) (C : Ct) (ρ : List Kd) (P : Po) (ds : List PyData) : Prop :=
  ∃ I : Nat → List Kd → Prop, I 0 ρ ∧ (∀ v d' (n : Nat) (a : PyData) ρ, ds[n]? = some a → I n ρ → fb (C.pin v d') (ρ.set j (.dat a)) { nx := I (n + 1), ct := I (n + 1), bk := P.nx, rt := P.rt }) ∧ ∀ ρ, I ds.length ρ → P.nx ρ
instance {fa : XF} {g : WSf} [a : WE K E ta fa] [b : WS K E t g] : WS K E (tFor (iAny K ta) (gName j) t) (fun C ρ P => fa C ρ fun k => ∃ ds, itF k = some ds ∧ gFor j g C ρ P ds) := ⟨fun {C ρ P} hK hE h => fun σ H r D pd => by
  subst hK
  refine a.ok rfl hE h σ H r _ fun k v H1 s1 r1 o1 => ?_
  obtain ⟨ds, e, I, i0, it, ie⟩ := s1
  have one : E1 C (fun _ H' Q => H' = H → Q v H1) ρ k := fun σ' H' r' Q' q' e => by
    subst e
    exact q' k v H1 rfl r1 o1
  have hk : k = .dat (.list ds) ∨ k = .dat (.tuple ds) ∨ k = .new ds := by
    cases k with
    | dat d =>
      cases d with
      | list es => cases e; exact .inl rfl
      | tuple es => cases e; exact .inr (.inl rfl)
      | _ => cases e
    | new es => cases e; exact .inr (.inr rfl)
    | _ => cases e
  exact b_for (j := j) (t := t) (P := P) one hk I i0 (fun v d' n a ρ ea hi => b.ok rfl hE (it v d' n a ρ ea hi)) ie σ H r D pd rfl⟩
def gForR (j : Nat) (lo : Int) (m : Nat) (fb : List Kd → Po → Prop) (ρ : List Kd) (P : Po) : Prop :=
  ∃ I : Nat → List Kd → Prop, I 0 ρ ∧ (∀ (n : Nat) ρ, n < m → I n ρ → fb (ρ.set j (.dat (.int (lo + n)))) { nx := I (n + 1), ct := I (n + 1), bk := P.nx, rt := P.rt }) ∧ ∀ ρ, I m ρ → P.nx ρ
def gR1 (k : Kd) (S : Int → Prop) : Prop := ∃ m : Int, k = .dat (.int m) ∧ -(2 ^ 62) ≤ m ∧ m < 2 ^ 62 ∧ S m
theorem gR1_i {m : Int} {S : Int → Prop} : gR1 (.dat (.int m)) S ↔ (-(2 ^ 62) ≤ m ∧ m < 2 ^ 62 ∧ S m) := ⟨fun ⟨_, e, h⟩ => by cases e; exact h, fun h => ⟨_, rfl, h⟩⟩
instance {fa : XF} {g : WSf} [a : WE K E ta fa] [b : WS K E t g] : WS K E (tFor (iRng1 (tCons ta tNil)) (gName j) t) (fun C ρ P => fa C ρ fun k => gR1 k fun m => gForR j 0 m.toNat (g C) ρ P) := ⟨fun {C ρ P} hK hE h => fun σ H r D pd => by
  refine a.ok hK hE h σ H r _ fun k v H1 s1 r1 o1 => ?_
  obtain ⟨m, rfl, m0, m1, I, i0, it, ie⟩ := s1
  obtain rfl := dp_int o1
  refine ⟨m, rfl, m0, m1, ?_⟩
  exact b_forR (j := j) (t := t) (P := P) (wi := fun _ H' W => H' = H1 → W (Itr 0 m.toNat) H1) (fun σ' H' r' W q e => by
    subst e
    exact q H' (R.refl r'.j)) I i0 (fun n ρ hn hi => b.ok hK hE (it n ρ hn hi)) ie σ H1 (r.up r1) D pd rfl⟩
instance {fa fb : XF} {g : WSf} [a : WE K E ta fa] [a2 : WE K E tb fb] [b : WS K E t g] : WS K E (tFor (iRng2 (tCons ta (tCons tb tNil))) (gName j) t) (fun C ρ P => fa C ρ fun k => fb C ρ fun k2 => gR1 k fun lo => gR1 k2 fun m => gForR j lo (m - lo).toNat (g C) ρ P) := ⟨fun {C ρ P} hK hE h => fun σ H r D pd => by
  refine a.ok hK hE h σ H r _ fun k v H1 s1 r1 o1 => a2.ok hK hE s1 σ H1 (r.up r1) _ fun k2 v2 H2 s2 r2 o2 => ?_
  obtain ⟨lo, rfl, l0, l1, m, rfl, m0, m1, I, i0, it, ie⟩ := s2
  obtain rfl := dp_int o1
  obtain rfl := dp_int o2
  refine ⟨lo, m, rfl, ⟨l0, l1, m0, m1⟩, ?_⟩
  exact b_forR (j := j) (t := t) (P := P) (wi := fun _ H' W => H' = H2 → W (Itr lo (m - lo).toNat) H2) (fun σ' H' r' W q e => by
    subst e
    exact q H' (R.refl r'.j)) I i0 (fun n ρ hn hi => b.ok hK hE (it n ρ hn hi)) ie σ H2 (r.up (r1.trans r2)) D pd rfl⟩
/-- xs.append(e), xs the def's own -/
def gOwn (o : Option Kd) (S : Addr → List PyData → Prop) : Prop := ∃ l ds, o = some (.own l ds) ∧ S l ds
theorem gOwn_o {S : Addr → List PyData → Prop} : gOwn (some (.own l ds)) S ↔ S l ds := ⟨fun ⟨_, _, e, h⟩ => by cases e; exact h, fun h => ⟨_, _, rfl, h⟩⟩
def gItem (k : Kd) (S : PyData → Prop) : Prop := (∃ d, k = .dat d ∧ S d) ∨ ∃ es, k = .new es ∧ S (.list es)
theorem gItem_d {S : PyData → Prop} : gItem (.dat d) S ↔ S d := by unfold gItem; simp
theorem gItem_n {S : PyData → Prop} : gItem (.new es) S ↔ S (.list es) := by unfold gItem; simp
instance {fa : XF} [a : WE K E ta fa] : WS K E (tDrop (tBM K "list" rAppend (tVar i) (tCons ta tNil))) (fun C ρ P => gOwn ρ[i]? fun l ds => fa C ρ fun k => gItem k fun d => ds.length < sizeLine ∧ P.nx (ρ.set i (.own l (ds ++ [d])))) := ⟨fun hK hE h => by
  subst hK
  obtain ⟨l, ds, e, h⟩ := h
  refine b_appS e (a.ok rfl hE h) fun z s => ?_
  rcases s with ⟨d, rfl, s1, s2⟩ | ⟨es, rfl, s1, s2⟩
  · exact ⟨s1, d, .inl rfl, s2⟩
  · exact ⟨s1, _, .inr ⟨es, rfl, rfl⟩, s2⟩⟩
/-- xs[e] = f, xs the def's own -/
instance {fa fb : XF} [a : WE K E ta fa] [b : WE K E tb fb] : WS K E (tAsg tb (gSub (tVar i) ta rSetL)) (fun C ρ P => fb C ρ fun k => gItem k fun d => gOwn ρ[i]? fun l ds => fa C ρ fun x => ∃ q n, x = .dat (.int q) ∧ ixN ds.length q = some n ∧ P.nx (ρ.set i (.own l (ds.set n d)))) := ⟨fun {C ρ P} hK hE h => fun σ H r D pd => by
  subst hK
  refine b.ok rfl hE h σ H r _ fun k v H1 s1 r1 o1 => ?_
  obtain ⟨d, hd, l, ds, e, s2⟩ : ∃ d, (k = .dat d ∨ ∃ es, k = .new es ∧ d = .list es) ∧ gOwn ρ[i]? fun l ds => fa C ρ fun x => ∃ q n, x = .dat (.int q) ∧ ixN ds.length q = some n ∧ P.nx (ρ.set i (.own l (ds.set n d))) := by
    rcases s1 with ⟨d, e, s⟩ | ⟨es, e, s⟩
    · exact ⟨d, .inl e, s⟩
    · exact ⟨_, .inr ⟨es, e, rfl⟩, s⟩
  have r' := r.up r1
  obtain ⟨vv, ev, ov⟩ := r'.var e rfl
  obtain ⟨rfl, ho, vs, h1, h2⟩ := ov
  refine ⟨_, ev, a.ok rfl hE s2 σ H1 r' _ fun kx w H2 s3 r2 o2 => ?_⟩
  obtain ⟨q, n, rfl, hn, s4⟩ := s3
  obtain rfl := dp_int o2
  have r3 := r'.up r2
  obtain ⟨vs', h3, h4⟩ := r3.own_at e
  have hv : Dp C.K (msk C ρ H2) v d := by
    rcases hd with rfl | ⟨es, rfl, rfl⟩
    · exact o1.up r r2
    · exact Dp.ex (msk_up r2) (o1.frz r r1)
  have hl := h4.length
  refine ⟨l, vs', q, n, rfl, rfl, h3, by rw [hl]; exact hn, pd.nx _ _ _ s4 (r3.wr e ?_)⟩
  exact dpall_set hv h4⟩
/-- x op= e -/
def gAug (o : Option Kd) (S : Int → Prop) : Prop := ∃ i : Int, o = some (.dat (.int i)) ∧ S i
theorem gAug_i {i : Int} {S : Int → Prop} : gAug (some (.dat (.int i))) S ↔ S i := ⟨fun ⟨_, e, h⟩ => by cases e; exact h, fun h => ⟨_, rfl, h⟩⟩
def gInt1 (k : Kd) (S : Int → Prop) : Prop := ∃ i : Int, k = .dat (.int i) ∧ S i
theorem gInt1_i {i : Int} {S : Int → Prop} : gInt1 (.dat (.int i)) S ↔ S i := ⟨fun ⟨_, e, h⟩ => by cases e; exact h, fun h => ⟨_, rfl, h⟩⟩
instance {f : Int → Int → Int} {fa : XF} [a : WE K E ta fa] : WS K E (tAug i ta (ipI f)) (fun C ρ P => gAug ρ[i]? fun p => fa C ρ fun k => gInt1 k fun q => P.nx (ρ.set i (.dat (.int (f p q))))) := ⟨fun {C ρ P} hK hE h => fun σ H r D pd => by
  obtain ⟨p, hp, h⟩ := h
  obtain ⟨v, e, o⟩ := r.var hp rfl
  obtain rfl := dp_int o
  refine ⟨_, e, a.ok hK hE h σ H r _ fun k w H' s1 r1 o1 => ?_⟩
  obtain ⟨q, rfl, s⟩ := s1
  obtain rfl := dp_int o1
  exact ⟨p, q, rfl, rfl, pd.nx _ _ H' s ((r.up r1).set_plain (Hs := H) (k := .dat (.int (f p q))) rfl (.int _))⟩⟩
/-- a, b = a pair -/
def gPair (k : Kd) (S : PyData → PyData → Prop) : Prop := ∃ d e, k = .dat (.tuple [d, e]) ∧ S d e
theorem gPair_t {S : PyData → PyData → Prop} : gPair (.dat (.tuple [d, e])) S ↔ S d e := ⟨fun ⟨_, _, e, h⟩ => by cases e; exact h, fun h => ⟨_, _, rfl, h⟩⟩
instance {fa : XF} [a : WE K E ta fa] : WS K E (tAsg ta (gTup K 2 (gCons (gName n) (gCons (gName j) gNil)))) (fun C ρ P => fa C ρ fun k => gPair k fun d e => P.nx ((ρ.set n (.dat d)).set j (.dat e))) := ⟨fun {C ρ P} hK hE h => fun σ H r D pd => by
  subst hK
  refine a.ok rfl hE h σ H r _ fun k v H1 s1 r1 o1 => ?_
  obtain ⟨d, e, rfl, s⟩ := s1
  obtain ⟨a, xs, rfl, h3, h4⟩ := dp_tup o1
  cases h4 with
  | cons g1 g2 =>
    cases g2 with
    | cons g2 g3 =>
      cases g3
      refine ⟨a, _, rfl, Ext.t msk_le h3, rfl, _, _, rfl, _, _, rfl, rfl, ?_⟩
      refine pd.nx _ _ _ s ?_
      have r3 := (r.up r1).set_plain (i := n) (Hs := H1) (k := .dat d) rfl g1
      exact r3.set_plain (i := j) (Hs := H1) (k := .dat e) rfl (Dp.ex (msk_plain rfl) g2)⟩
/-- a, b = e, f (names alone) -/
instance {f : Ct → List Kd → (List Kd → Prop) → Prop} [b : WA K E al f] : WS K E (tPar n j al) (fun C ρ P => f C ρ fun ks => ∃ d e, ks = [.dat d, .dat e] ∧ P.nx ((ρ.set n (.dat d)).set j (.dat e))) := ⟨fun {C ρ P} hK hE h => fun σ H r D pd => by
  refine b.ok hK hE h σ H r _ fun ks vs H1 s1 r1 o1 => ?_
  obtain ⟨d, e, rfl, s⟩ := s1
  obtain ⟨v, w, rfl, g1, g2⟩ := o1.two
  refine ⟨v, w, rfl, pd.nx _ _ _ s ?_⟩
  have r3 := (r.up r1).set_plain (i := n) (Hs := H1) (k := .dat d) rfl g1
  exact r3.set_plain (i := j) (Hs := H1) (k := .dat e) rfl (Dp.ex (msk_plain rfl) g2)⟩
/-- raise C(e), raise C(e, f) -/
instance {D : Addr} {f1 f2 : Str} {f : Ct → List Kd → (List Kd → Prop) → Prop} [b : WA K E al f] : WS K E (fun _ σ H => tMkO D (spI2 D f1 f2) [] al σ H fun cls d H' => E cls d H') (fun C ρ P => f C ρ fun ks => ∃ d1 d2, ks = [.dat d1, .dat d2] ∧ nl d1 = true ∧ nl d2 = true ∧ C.Z (.ref D) [(f2, d2), (f1, d1)]) := ⟨fun {C ρ P} hK hE h => fun σ H r D' pd => by
  subst hK hE
  refine b.ok rfl rfl h σ H r _ fun ks vs H1 s1 r1 o1 => ?_
  obtain ⟨d1, d2, rfl, n1, n2, z⟩ := s1
  have one : A1 C (fun _ H' Q => H' = H → Q vs H1) ρ [.dat d1, .dat d2] := fun σ' H' r' Q' q' e => by
    subst e
    exact q' _ vs H1 rfl r1 o1
  exact b_rz2 (P := P) one n1 n2 z σ H r D' pd rfl⟩
instance {D : Addr} {f1 : Str} {f : Ct → List Kd → (List Kd → Prop) → Prop} [b : WA K E al f] : WS K E (fun _ σ H => tMkO D (spI1 D f1) [] al σ H fun cls d H' => E cls d H') (fun C ρ P => f C ρ fun ks => ∃ d1, ks = [.dat d1] ∧ nl d1 = true ∧ C.Z (.ref D) [(f1, d1)]) := ⟨fun {C ρ P} hK hE h => fun σ H r D' pd => by
  subst hK hE
  refine b.ok rfl rfl h σ H r _ fun ks vs H1 s1 r1 o1 => ?_
  obtain ⟨d1, rfl, n1, z⟩ := s1
  have one : A1 C (fun _ H' Q => H' = H → Q vs H1) ρ [.dat d1] := fun σ' H' r' Q' q' e => by
    subst e
    exact q' _ vs H1 rfl r1 o1
  exact b_rz1 (P := P) one n1 z σ H r D' pd rfl⟩
end
end Mh
namespace Mh
open PySem PySem.Spec PyProof.Rows L2 TL
/-! ### further readings: f-strings, all, sum, min, max of a list, replace, own classes, tables of the module -/
def tJoin (ts : List TE) : TE := fun σ H Q => tJs ts Str.empty σ H fun out H1 => Q (.str out) H1
abbrev rAllP := @rAll
abbrev rSumP := @rSum
abbrev rMinL := @rMin
abbrev rMaxL := @rMax
theorem call_allP {X : Cx} (hc : X.calm = true := by rfl) : CallR X (.builtin "all") (rAll X.K) := cr_all hc
theorem call_sumP {X : Cx} (hc : X.calm = true := by rfl) : CallR X (.builtin "sum") (rSum X.K) := cr_sum hc
theorem call_minL {X : Cx} (hc : X.calm = true) : CallR X (.builtin "min") (rMin X.K) := cr_min hc
theorem call_maxL {X : Cx} (hc : X.calm = true) : CallR X (.builtin "max") (rMax X.K) := cr_max hc
/-- (x + '..') + e.replace(..) -/
theorem pe_catT {X : Cx} {x f : Expr} {tx tf : TE} {c : Str} {j : Nat} {p1 p2 pos : Pos} (hx : PE X x tx) (hf : PET X f tf) : PE X (.BinOp (.BinOp x .Add (.Constant (.str c) j p1) p2) .Add f pos) (tOp (rAddP X.K) (tOp (rAddP X.K) tx (tC (.str c))) tf) := by
  refine ⟨fun pins s σ H Q I h => ?_⟩
  refine wpAny_BinOp (wpAny_BinOp (thn (hx.run pins s σ H _ I h) fun v s1 ⟨xv, H1, I1, r1, q1⟩ => ?_))
  refine Calls.Constant_str ?_
  have I2 : Inv X pins σ H1 { s1 with toks := s1.toks + 1 } := I1.tok _
  refine wpAny_mono (PySem.wpAny_toks (op_addP pins { s1 with toks := s1.toks + 1 } σ H1 xv (.str c) v _ _ I2 r1 ⟨_, rfl⟩ q1)) (fun u s2 q => ?_) fun _ _ z => z.2
  obtain ⟨hk, w, H2, I3, r2, q2⟩ := q
  have h0 : 1 ≤ s2.toks := Nat.le_trans (Nat.le_add_left 1 s1.toks) hk
  exact thn (hf pins s2 σ H2 _ h0 I3 q2) fun u3 s3 ⟨y, H3, I4, r3, q3⟩ => op_addP pins s3 σ H3 w y u u3 Q I4 r2 r3 q3
section
variable {K : PySem.W.Frag} {E : XK} {C : Ct} {σ : L2.St} {H H' H1 H2 Hs : Hp} {ρ : List Kd} {v : V} {k x y z : Kd} {l : Addr} {d e : PyData} {ds es : List PyData} {ta tb tc te : TE} {tt tu : TT} {ti : TI} {t u : TS} {al : TA} {i j n m : Nat} {S S1 S2 : Kd → Prop} {P P' : Po}
/-! f-strings -/
def gFmt (k : Kd) (S : Kd → Prop) : Prop := (∃ z : Str, k = .dat (.str z) ∧ z.length ≤ sizeLine ∧ S (.dat (.str z))) ∨ ∃ i : Int, k = .dat (.int i) ∧ i.natAbs.log2 < 1920 ∧ S (.dat (.str (toString i)))
theorem gFmt_s {z : Str} : gFmt (.dat (.str z)) S ↔ (z.length ≤ sizeLine ∧ S (.dat (.str z))) := by unfold gFmt; simp
theorem gFmt_i {i : Int} : gFmt (.dat (.int i)) S ↔ (i.natAbs.log2 < 1920 ∧ S (.dat (.str (toString i)))) := by unfold gFmt; simp
instance {fa : XF} [a : WE K E ta fa] : WE K E (tFmt ta) (fun C ρ S => fa C ρ fun k => gFmt k S) := ⟨fun hK hE h => fun σ H rp Q q => a.ok hK hE h σ H rp _ fun k v H1 s1 r1 o1 => by
  rcases s1 with ⟨z, rfl, hz, s⟩ | ⟨i, rfl, hz, s⟩
  · obtain rfl := dp_str o1
    exact .inl ⟨z, rfl, hz, q _ _ _ s r1 (.str _)⟩
  · obtain rfl := dp_int o1
    exact .inr ⟨i, rfl, hz, q _ _ _ s r1 (.str _)⟩⟩
class WJ (K : PySem.W.Frag) (E : XK) (ts : List TE) (f : outParam (Ct → List Kd → Str → (Str → Prop) → Prop)) : Prop where
  ok : ∀ {C : Ct} {ρ : List Kd} {acc : Str} {S : Str → Prop}, C.K = K → C.E = E → f C ρ acc S → ∀ (σ : L2.St) (H : Hp), Rep C σ H ρ → ∀ Q : Str → Hp → Prop, (∀ z H', S z → R C H H' → Q z H') → tJs ts acc σ H Q
instance : WJ K E [] (fun _ _ acc S => S acc) := ⟨fun _ _ s σ H r Q q => q _ H s (R.refl r.j)⟩
def gJn (acc : Str) (k : Kd) (S : Str → Prop) : Prop := ∃ z : Str, k = .dat (.str z) ∧ (acc ++ z).length ≤ sizeLine ∧ S (acc ++ z)
theorem gJn_s {acc z : Str} {S : Str → Prop} : gJn acc (.dat (.str z)) S ↔ ((acc ++ z).length ≤ sizeLine ∧ S (acc ++ z)) := ⟨fun ⟨_, e, h⟩ => by cases e; exact h, fun h => ⟨_, rfl, h⟩⟩
instance {ts : List TE} {fa : XF} {f : Ct → List Kd → Str → (Str → Prop) → Prop} [a : WE K E ta fa] [b : WJ K E ts f] : WJ K E (ta :: ts) (fun C ρ acc S => fa C ρ fun k => gJn acc k fun z => f C ρ z S) := ⟨fun hK hE h σ H rp Q q => a.ok hK hE h σ H rp _ fun k v H1 s1 r1 o1 => by
  obtain ⟨z, rfl, hz, s⟩ := s1
  obtain rfl := dp_str o1
  exact ⟨z, rfl, hz, b.ok hK hE s σ H1 (rp.up r1) Q fun z' H' s' r' => q z' H' s' (r1.trans r')⟩⟩
instance {ts : List TE} {f : Ct → List Kd → Str → (Str → Prop) → Prop} [b : WJ K E ts f] : WE K E (tJoin ts) (fun C ρ S => f C ρ Str.empty fun z => S (.dat (.str z))) := ⟨fun hK hE h σ H rp Q q => b.ok hK hE h σ H rp _ fun z H' s r => q _ _ H' s r (.str _)⟩
/-! all, sum, min, max -/
theorem DpAll.bools {M : Hp} : ∀ {bs : List Bool} {vs : List V}, DpAll K M vs (bs.map .bool) → vs = bs.map V.bl
  | [], _, .nil => rfl
  | _ :: _, _, .cons (.bl _) a => by rw [DpAll.bools a]; rfl
def gAll (ks : List Kd) (S : Kd → Prop) : Prop := ∃ k, ∃ bs : List Bool, ks = [k] ∧ datK k = some (.list (bs.map .bool)) ∧ S (.dat (.bool (bs.all id)))
theorem gAll_of {bs : List Bool} (e : datK k = some (.list (bs.map .bool))) (s : S (.dat (.bool (bs.all id)))) : gAll [k] S := ⟨_, _, rfl, e, s⟩
instance : WB K (rAll K) gAll := ⟨fun hK ⟨k, bs, e1, e2, s⟩ => fun σ Hs H vs _ q r o Q g => by
  subst hK e1
  obtain ⟨v, rfl, o1⟩ := o.one
  obtain ⟨a, xs, rfl, h1, h2⟩ := o1.lsq e2
  rw [h2.bools] at h1
  exact ⟨a, bs, rfl, h1, g _ _ _ s (R.refl r.j) (.bl _)⟩⟩
def gNums (f : List Int → (Int → Prop) → Prop) (ks : List Kd) (S : Kd → Prop) : Prop := ∃ k, ∃ ns : List Int, ks = [k] ∧ datK k = some (.list (ns.map .int)) ∧ f ns fun i => S (.dat (.int i))
theorem gNums_of {f : List Int → (Int → Prop) → Prop} {ns : List Int} (e : datK k = some (.list (ns.map .int))) (s : f ns fun i => S (.dat (.int i))) : gNums f [k] S := ⟨_, _, rfl, e, s⟩
theorem nums_at {K : PySem.W.Frag} {ns : List Int} (hK : C.K = K) (o1 : VOk C ρ Hs H v k) (e : datK k = some (.list (ns.map .int))) : ∃ a, v = .ref a ∧ SqL K H a (ns.map V.int) := by
  subst hK
  obtain ⟨a, xs, rfl, h1, h2⟩ := o1.lsq e
  rw [h2.ints] at h1
  exact ⟨a, rfl, h1⟩
instance : WB K (rSum K) (gNums fun ns S => S ns.sum) := ⟨fun hK ⟨k, ns, e1, e2, s⟩ => fun σ Hs H vs _ q r o Q g => by
  subst e1
  obtain ⟨v, rfl, o1⟩ := o.one
  obtain ⟨a, rfl, h1⟩ := nums_at hK o1 e2
  exact ⟨a, ns, rfl, h1, g _ _ _ s (R.refl r.j) (.int _)⟩⟩
instance : WB K (rMax K) (gNums fun ns S => 0 < ns.length ∧ ∀ m, m ∈ ns → (∀ y, y ∈ ns → y ≤ m) → S m) := ⟨fun hK ⟨k, ns, e1, e2, hn, s⟩ => fun σ Hs H vs _ q r o Q g => by
  subst e1
  obtain ⟨v, rfl, o1⟩ := o.one
  obtain ⟨a, rfl, h1⟩ := nums_at hK o1 e2
  exact ⟨a, ns, rfl, h1, hn, fun m h2 h3 => g _ _ _ (s m h2 h3) (R.refl r.j) (.int _)⟩⟩
instance : WB K (rMin K) (gNums fun ns S => 0 < ns.length ∧ ∀ m, m ∈ ns → (∀ y, y ∈ ns → m ≤ y) → S m) := ⟨fun hK ⟨k, ns, e1, e2, hn, s⟩ => fun σ Hs H vs _ q r o Q g => by
  subst e1
  obtain ⟨v, rfl, o1⟩ := o.one
  obtain ⟨a, rfl, h1⟩ := nums_at hK o1 e2
  exact ⟨a, ns, rfl, h1, hn, fun m h2 h3 => g _ _ _ (s m h2 h3) (R.refl r.j) (.int _)⟩⟩
/-! replace of written texts -/
instance {y z : Str} {fa : XF} [a : WE K E ta fa] : WE K E (CwR.tReplC ta y z) (fun C ρ S => fa C ρ fun k => gTx k fun w => w.length + (w.length + 1) * z.length ≤ 16777216 ∧ S (.dat (.str (Txt.replace w y z)))) := ⟨fun hK hE h => fun σ H rp Q q => a.ok hK hE h σ H rp _ fun k v H1 s1 r1 o1 => by
  obtain ⟨w, rfl, hw, s⟩ := s1
  obtain rfl := dp_str o1
  exact ⟨w, rfl, hw, q _ _ _ s r1 (.str _)⟩⟩
/-! a tuple of numbers of the module -/
structure TupG (K : PySem.W.Frag) (x : Str) (ns : List Int) : Prop where
  at_ : ∀ H : Hp, SqT K H (He.ga K x) (ns.map V.int)
class TupC (K : PySem.W.Frag) (x : Str) (ns : outParam (List Int)) : Prop where
  ok : TupG K x ns
theorem e_tupG {x : Str} {ns : List Int} (h : TupG C.K x ns) : E1 C (tC (.ref (He.ga C.K x))) ρ (.dat (.tuple (ns.map .int))) := fun σ H r Q q => q _ _ H rfl (R.refl r.j) (.tup (h.at_ _) (DpAll.of_ints ns))
/-! own classes -/
structure ClsI (K : PySem.W.Frag) (D : Addr) : Prop where
  cls : Cls K D
  kit : PySem.W.kitOne K (.ref D) (.ref D) = some true
  oth : ∀ T ∈ ["NoneType", "bool", "int", "str", "tuple", "list"], PySem.W.kitOne K (.type T) (.ref D) = some false
  ha : PySem.W.findIn K (.ref D) "__class__" = some (some (.builtin "object.__class__"))
  hn : PySem.W.specialIn K (.builtin "object.__class__") "__get__" = some (some (.builtin "getset_descriptor.__get__"))
  htk : PySem.W.takesIn K (.builtin "object.__class__") = some true
  hm : PySem.W.mroIn K D (.type "object") = some true
  oth2 : ∀ T ∈ ["int", "bool", "str", "tuple", "list"], PySem.W.kitOne K (.ref D) (.type T) = some false
/-- the fields of an instance, as data -/
def fldD : List Str → List PyData → Str → Option PyData
  | n :: ns, d :: ds, f => if f = n then some d else fldD ns ds f
  | _, _, _ => none
theorem fld_at {M : Hp} : ∀ {fs : List (Str × V)} {ds : List PyData} {f : Str} {d : PyData}, DpAll K M (fs.map (·.2)) ds → fldD (fs.map (·.1)) ds f = some d → ∃ v, fs.lookup f = some v ∧ Dp K M v d
  | [], _, _, _, .nil, h => by cases h
  | (n, u) :: r, _, f, d, .cons h a, e => by
    simp only [List.map_cons, fldD] at e
    by_cases hn : f = n
    · rw [if_pos hn] at e
      cases e
      subst hn
      exact ⟨u, by simp, h⟩
    · rw [if_neg hn] at e
      obtain ⟨v, h1, h2⟩ := fld_at a e
      refine ⟨v, ?_, h2⟩
      have : (f == n) = false := by simpa using hn
      simp only [List.lookup, this]
      exact h1
theorem dp_ins {M : Hp} {v : V} {a D : Addr} {ns : List Str} (h : Dp K M v (ObD a D ns ds)) : ∃ dx fs, v = .ref a ∧ M a = some (.ins D dx fs) ∧ DpAll K M (fs.map (·.2)) ds ∧ fs.map (·.1) = ns := by
  generalize e : ObD a D ns ds = d at h
  cases h with
  | ins h1 h2 =>
    simp only [ObD, PyData.dict.injEq, List.cons.injEq, Prod.mk.injEq, PyData.list.injEq, PyData.int.injEq, PyData.tuple.injEq, and_true, Int.ofNat.injEq] at e
    obtain ⟨⟨e1, e2, e3⟩, e4⟩ := e
    obtain rfl : a = _ := by simpa using e1
    obtain rfl : D = _ := by simpa using e2
    subst e4
    have : ∀ l l' : List Str, l.map PyData.str = l'.map PyData.str → l = l' := fun l l' h => by
      have inj : Function.Injective PyData.str := fun a b h => by cases h; rfl
      exact (List.map_inj_right (fun a b h => inj h)).mp h
    exact ⟨_, _, rfl, h1, h2, (this _ _ e3).symm⟩
  | _ => cases e
def gFld (NA : Addr → Str → Prop) (f : Str) (k : Kd) (S : Kd → Prop) : Prop := ∃ a D ns ds d, k = .dat (ObD a D ns ds) ∧ NA D f ∧ fldD ns ds f = some d ∧ S (.dat d)
theorem gFld_of {NA : Addr → Str → Prop} {f : Str} {a D : Addr} {ns : List Str} (h1 : NA D f) (h2 : fldD ns ds f = some d) (s : S (.dat d)) : gFld NA f (.dat (ObD a D ns ds)) S := ⟨_, _, _, _, _, rfl, h1, h2, s⟩
instance {fa : XF} {f : Str} [a : WE K E ta fa] : WE K E (tFld K ta f) (fun C ρ S => fa C ρ fun k => gFld (fun D f => Cls K D ∧ NoAttr K D f) f k S) := ⟨fun hK hE h => fun σ H rp Q q => a.ok hK hE h σ H rp _ fun k v H1 s1 r1 o1 => by
  subst hK
  obtain ⟨a, D, ns, ds, d, rfl, ⟨hc, hna⟩, hf, s⟩ := s1
  obtain ⟨dx, fs, rfl, h1, h2, rfl⟩ := dp_ins o1
  obtain ⟨v, h3, h4⟩ := fld_at h2 hf
  exact ⟨a, D, dx, fs, v, rfl, (msk_of h1).1, hc, hna, h3, q _ _ _ s r1 h4⟩⟩
theorem ins_ty {M : Hp} {D a dx : Addr} {fs : List (Str × V)} (h : ClsI K D) (e : M a = some (.ins D dx fs)) : TyX K M (.ref a) (.ref D) := .base (.ins e h.cls h.ha h.hn h.htk h.hm)
/-- isinstance(e, C), C the program's own -/
def gIsO (K : PySem.W.Frag) (D : Addr) (k : Kd) (S : Kd → Prop) : Prop := ClsI K D ∧ ((∃ a ns ds, k = .dat (ObD a D ns ds) ∧ S (.dat (.bool true))) ∨ ∃ T, tyK k = some T ∧ S (.dat (.bool false)))
theorem gIsO_t {D a : Addr} {ns : List Str} (h : ClsI K D) (s : S (.dat (.bool true))) : gIsO K D (.dat (ObD a D ns ds)) S := ⟨h, .inl ⟨_, _, _, rfl, s⟩⟩
theorem gIsO_f {D : Addr} {T : String} (h : ClsI K D) (e : tyK k = some T) (s : S (.dat (.bool false))) : gIsO K D k S := ⟨h, .inr ⟨_, e, s⟩⟩
theorem tyK_mem {T : String} (h : tyK k = some T) : T ∈ ["NoneType", "bool", "int", "str", "tuple", "list"] := by
  cases k with
  | dat d => cases d <;> simp [tyK] at h <;> subst h <;> simp
  | own l ds => simp [tyK] at h; subst h; simp
  | new ds => simp [tyK] at h; subst h; simp
  | _ => simp [tyK] at h
instance {fa : XF} {D : Addr} [a : WE K E ta fa] : WE K E (tCB (rIsi K) (tCons ta (tCons (tC (.ref D)) tNil))) (fun C ρ S => fa C ρ fun k => gIsO K D k S) := ⟨fun hK hE h => fun σ H rp Q q => by
  subst hK
  refine a.ok rfl hE h σ H rp _ fun k v H1 s1 r1 o1 => ?_
  obtain ⟨hD, ⟨a, ns, ds, rfl, s⟩ | ⟨T, e, s⟩⟩ := s1
  · obtain ⟨dx, fs, rfl, h1, _, _⟩ := dp_ins o1
    exact ⟨_, .ref D, .ref D, .ref D, true, rfl, .own D, ins_ty hD (msk_of h1).1, hD.kit, q _ _ _ s r1 (.bl _)⟩
  · exact ⟨v, .ref D, .type T, .ref D, false, rfl, .own D, o1.ty e, hD.oth T (tyK_mem e), q _ _ _ s r1 (.bl _)⟩⟩
end
end Mh
namespace Mh
open PySem PySem.Spec PyProof.Rows L2 TL
/-! ### told texts as data; the laws' _law_same -/
def X (d : PyData) : Str := ⟨(txt d).toArray⟩
abbrev sp_law_same (K : PySem.W.Frag) : Sp := SpP K A_same
def t_law_same := t_same
section
variable {K : PySem.W.Frag} {vs : List V} {H : Hp} {Q : VK} {E : XK}
theorem sb_body {K : PySem.W.Frag} {t : TS} {A : Addr → At} {vs : List V} {Q : VK} {E : XK} {N : List Str} {H : Hp}
    (h : ∀ b g c H E ks S Z, A b ks S Z → ∀ n, ks.length + n = N.length ∨ N.length ≤ ks.length → InB ⟨K, BF b g c, BJ b g c, H, true, [], E, Z⟩ b → BS ⟨K, BF b g c, BJ b g c, H, true, [], E, Z⟩ t (ks ++ List.replicate (N.length - ks.length) .un) { rt := S, nx := fun _ => S (.dat .none) }) (q : spB K A vs H Q E) :
    t { nx := fun _ H' => Q .non H', rt := Q } (L2.start N vs) H := by
  obtain ⟨b, g, c, q⟩ := q
  exact sp_body (fun H E ks S Z a n hn => h b g c H E ks S Z a n hn ⟨g, c, rfl, rfl⟩) q
theorem go_law_same (h : sp_law_same K vs H Q E) : t_law_same K { nx := fun _ H' => Q .non H', rt := Q } (L2.start ["due", "got"] vs) H := by
  refine sp_body ?_ h
  rintro H E ks S Z ⟨d, e, rfl, h1, h2, rfl, rfl⟩ n _
  exact b_same (C := ⟨K, noF, noJ, H, false, [], E, noZ⟩) h1 h2 rfl
theorem at_set {α : Type} {xs : List α} {n : Nat} {i : Int} (hl : xs.length = n) (h0 : 0 ≤ i) (h1 : i < n) : ∃ u, atI xs i = some u ∧ u ∈ xs := by
  obtain ⟨u, e1, e2⟩ := at_int (xs := xs) h0 (by rw [hl]; exact h1)
  exact ⟨u, e1, List.mem_of_getElem? e2⟩
theorem X_tl (d : PyData) : tl (X d) = txt d := rfl
theorem X_len (d : PyData) : (X d).length = (txt d).length := by
  rw [len_tl]
  exact congrArg List.length (X_tl d)
theorem X_str {x : Str} {d : PyData} (h : tl x = txt d) : x = X d := ext_tl h
theorem gdAll_ne : ∀ ds : List PyData, ds.length ≤ (txtAll ds).length
  | [] => Nat.le_refl _
  | x :: xs => by
    have := gdAll_ne xs
    rw [txtAll, List.length_append, List.length_cons, List.length_cons]
    omega
theorem txtAll_flat (ds : List PyData) : ((ds.map fun d => X d ++ ",").map tl).flatten = txtAll ds := by
  induction ds with
  | nil => rfl
  | cons d ds ih =>
    rw [List.map_cons, List.map_cons, List.flatten_cons, ih, tl_append, com1, X_tl, txtAll]
    simp
theorem one_len : (("," : Str)).length = 1 ∧ (("(" : Str)).length = 1 ∧ ((")" : Str)).length = 1 := by decide +kernel
theorem txt_part {ds : List PyData} {n : Nat} {d : PyData} (h : ds[n]? = some d) : (txt d).length + 1 ≤ (txtAll ds).length := by
  have e := txtAll_app (ds.take n) (ds.drop n)
  rw [List.take_append_drop] at e
  have hl := (List.getElem?_eq_some_iff.mp h)
  obtain ⟨hn, hd⟩ := hl
  rw [List.drop_eq_getElem_cons hn, hd, txtAll] at e
  rw [e, List.length_append, List.length_append, List.length_cons]
  omega
theorem depAll_app (xs ys : List PyData) : depAll (xs ++ ys) = max (depAll xs) (depAll ys) := by
  induction xs with
  | nil => simp [depAll]
  | cons x xs ih => simp [depAll, ih, Nat.max_assoc]
theorem str_app_len (a b : Str) : (a ++ b).length = a.length + b.length := by
  rw [len_tl, tl_append, List.length_append, ← len_tl, ← len_tl]
theorem e_cat {C : Ct} {ρ : List Kd} {ta tb : TE} {a b : Str} (ha : E1 C ta ρ (.dat (.str a))) (hb : E1 C tb ρ (.dat (.str b))) (h : a.length + b.length ≤ 100000) : E1 C (tOp (rAddP C.K) ta tb) ρ (.dat (.str (a ++ b))) :=
  e_op1 ha hb (k_add_s (Nat.le_trans h (by decide)))
theorem e_strI {C : Ct} {ρ : List Kd} {ta : TE} {i : Int} (ha : E1 C ta ρ (.dat (.int i))) (h0 : 0 ≤ i) (h1 : i < 10 ^ 40) : E1 C (tCB rStrP (tCons ta tNil)) ρ (.dat (.str (X (.int i)))) :=
  (e_cb1 (a_cons ha a_nil) (c_str (log_lt h0 h1))).is (by rw [X_str (d := .int i) (num_str h0)])
theorem X_lt {d : PyData} (h : gd d = true) : ∀ c ∈ tl (X d), c < 128 := fun c hc => txt_lt d h c hc
theorem X_sh {d : PyData} (h : gd d = true) (hl : (txt d).length ≤ 90000) : ShOk (.str (X d)) := str_sh (X_lt h) (by rw [X_len]; omega)
theorem same_self {d : PyData} (h : SeqAt.shaped d = true) : (PyData.eqv d d && decide (d.shown = d.shown)) = true := by
  rw [SeqAt.eqv_refl d (SeqAt.canLay_of_shaped h), decide_eq_true rfl]
  rfl
theorem e_same {C : Ct} {ρ : List Kd} {ta tb : TE} {d : PyData} (ha : E1 C ta ρ (.dat d)) (hb : E1 C tb ρ (.dat d)) (h : ShOk d) : E1 C (tCall (sp_law_same C.K) [] E0 (tCons ta (tCons tb tNil))) ρ (.dat (.bool true)) :=
  e_callP (A := A_same) (S' := fun z => z = .dat (.bool (PyData.eqv d d && decide (d.shown = d.shown)))) (ks' := [.dat d, .dat d]) (a_cons ha (a_cons hb a_nil)) (.cons (.dat fun h => by cases h) (.cons (.dat fun h => by cases h) .nil)) ⟨d, d, rfl, h, h, rfl, rfl⟩ fun k hk => by rw [hk, same_self h.sh]
end
end Mh
namespace Mh
open PySem PySem.Spec PyProof.Rows L2 TL
section
variable {K : PySem.W.Frag} {F : Addr → Prop} {J : Hp → Prop} {fr : Bool} {A : At} {N : List Str} {t : TS} {f : WSf} {vs : List V} {H : Hp} {Q : VK} {E : XK}
abbrev slots (N : List Str) (ks : List Kd) : List Kd := ks ++ List.replicate (N.length - ks.length) .un
/-- THE RULE: a promise from its transformer -/
theorem sp_wp (q : SpF K F J fr A vs H Q E) (w : ∀ E, WS K E t f) (h : ∀ (C : Ct) ks S Z, C.K = K → C.fr = fr → C.Z = Z → A ks S Z → f C (slots N ks) { rt := S, nx := fun _ => S (.dat .none) }) :
    t { nx := fun _ H' => Q .non H', rt := Q } (L2.start N vs) H :=
  sp_body (fun H E ks S Z a n _ => (w E).ok rfl rfl (h ⟨K, F, J, H, fr, [], E, Z⟩ ks S Z rfl rfl rfl a)) q
/-- the same of a def that may raise -/
theorem sp_wpX {t : XK → TS} (q : SpF K F J fr A vs H Q E) (w : ∀ E, WS K E (t E) f) (h : ∀ (C : Ct) ks S Z, C.K = K → C.fr = fr → C.Z = Z → A ks S Z → f C (slots N ks) { rt := S, nx := fun _ => S (.dat .none) }) :
    t E { nx := fun _ H' => Q .non H', rt := Q } (L2.start N vs) H :=
  sp_bodyE (fun H ks S Z a n _ => (w E).ok rfl rfl (h ⟨K, F, J, H, fr, [], E, Z⟩ ks S Z rfl rfl rfl a)) q
/-- the same of a law's def with the box -/
theorem sb_wp {A : Addr → At} (q : spB K A vs H Q E) (w : ∀ E, WS K E t f) (h : ∀ (C : Ct) b ks S Z, C.K = K → C.fr = true → C.Z = Z → InB C b → A b ks S Z → f C (slots N ks) { rt := S, nx := fun _ => S (.dat .none) }) :
    t { nx := fun _ H' => Q .non H', rt := Q } (L2.start N vs) H :=
  sb_body (fun b g c H E ks S Z a n _ ib => (w E).ok rfl rfl (h ⟨K, BF b g c, BJ b g c, H, true, [], E, Z⟩ b ks S Z rfl rfl rfl ib a)) q
end
/-- a pure def of data: what it asks, what it answers -/
abbrev Fn (m : Nat) (pre : List PyData → Prop) (res : List PyData → Kd) : At := fun ks S Z => ∃ ds, ks = ds.map .dat ∧ ds.length = m ∧ pre ds ∧ S = (fun k => k = res ds) ∧ Z = noZ
section
variable {S : Kd → Prop}
theorem imp_eq {k0 : Kd} (h : S k0) : ∀ k, k = k0 → S k := fun _ e => e ▸ h
end
section
variable {S : Kd → Prop} {x y : Kd} {j : Nat} {ρ : List Kd}
/-- [f(x) for x in ..] -/
theorem gLc_map {ft : List Kd → (Bool → Prop) → Prop} {fe : List Kd → (Kd → Prop) → Prop} {ds : List PyData} (f : PyData → PyData) (hj : notOwn ρ[j]? = true) (hl : ds.length ≤ sizeLine) (ht : ∀ ρ S, S true → ft ρ S)
    (he : ∀ (n : Nat) a, ds[n]? = some a → nl (f a) = true ∧ ∀ S : Kd → Prop, S (.dat (f a)) → fe (lcR ρ j a) S) (s : S (.new (ds.map f))) : gLc j ρ ft fe ds S :=
  ⟨hj, hl, fun n acc => acc = (ds.take n).map f, rfl, fun n acc e => by rw [e, List.length_map, List.length_take]; omega, fun n a acc ea e => ht _ _ ⟨fun _ => (he n a ea).2 _ ⟨(he n a ea).1, by have e : acc = _ := e; show acc ++ [f a] = (ds.take (n + 1)).map f; rw [e, take_succ_of ea, List.map_append]; rfl⟩, fun h => by cases h⟩, fun acc e => by rw [e, List.take_length]; exact s⟩
/-- [f(x) for x in .. if p(x)] -/
theorem gLc_fil {ft : List Kd → (Bool → Prop) → Prop} {fe : List Kd → (Kd → Prop) → Prop} {ds : List PyData} (f : PyData → PyData) (p : PyData → Bool) (hj : notOwn ρ[j]? = true) (hl : ds.length ≤ sizeLine) (ht : ∀ (n : Nat) a, ds[n]? = some a → ∀ S : Bool → Prop, S (p a) → ft (lcR ρ j a) S)
    (he : ∀ (n : Nat) a, ds[n]? = some a → p a = true → nl (f a) = true ∧ ∀ S : Kd → Prop, S (.dat (f a)) → fe (lcR ρ j a) S) (s : S (.new ((ds.filter p).map f))) : gLc j ρ ft fe ds S :=
  ⟨hj, hl, fun n acc => acc = ((ds.take n).filter p).map f, rfl, fun n acc e => by
      rw [e, List.length_map]
      exact Nat.le_trans (List.length_filter_le _ _) (by rw [List.length_take]; omega), fun n a acc ea e => ht n a ea _ ⟨fun h => (he n a ea h).2 _ ⟨(he n a ea h).1, by have e : acc = _ := e; show acc ++ [f a] = ((ds.take (n + 1)).filter p).map f; rw [e, take_succ_of ea, List.filter_append]; simp [h]⟩, fun h => by have e : acc = _ := e; show acc = ((ds.take (n + 1)).filter p).map f; rw [e, take_succ_of ea, List.filter_append]; simp [h]⟩, fun acc e => by rw [e, List.take_length]; exact s⟩
/-- a loop over data that changes what it changes by a word -/
theorem gIsi_d {n T : String} {b : Bool} {d : PyData} (h1 : tyK (.dat d) = some T) (h2 : kitB T n = some b) (s : S (.dat (.bool b))) : gIsi n (.dat d) S := ⟨_, _, h1, h2, s⟩
end
theorem gIsi_int_none {S : Kd → Prop} : gIsi "int" (.dat .none) S ↔ S (.dat (.bool false)) := ⟨fun ⟨T, b', e, hb, h⟩ => by
  cases e
  exact (Option.some.inj (show some false = some b' from hb)) ▸ h, fun h => ⟨"NoneType", false, rfl, rfl, h⟩⟩
theorem gIsi_int_bool {b : Bool} {S : Kd → Prop} : gIsi "int" (.dat (.bool b)) S ↔ S (.dat (.bool true)) := ⟨fun ⟨T, b', e, hb, h⟩ => by
  cases e
  exact (Option.some.inj (show some true = some b' from hb)) ▸ h, fun h => ⟨"bool", true, rfl, rfl, h⟩⟩
theorem gIsi_int_int {i : Int} {S : Kd → Prop} : gIsi "int" (.dat (.int i)) S ↔ S (.dat (.bool true)) := ⟨fun ⟨T, b', e, hb, h⟩ => by
  cases e
  exact (Option.some.inj (show some true = some b' from hb)) ▸ h, fun h => ⟨"int", true, rfl, rfl, h⟩⟩
theorem gIsi_int_str {z : Str} {S : Kd → Prop} : gIsi "int" (.dat (.str z)) S ↔ S (.dat (.bool false)) := ⟨fun ⟨T, b', e, hb, h⟩ => by
  cases e
  exact (Option.some.inj (show some false = some b' from hb)) ▸ h, fun h => ⟨"str", false, rfl, rfl, h⟩⟩
theorem gIsi_int_tuple {ds : List PyData} {S : Kd → Prop} : gIsi "int" (.dat (.tuple ds)) S ↔ S (.dat (.bool false)) := ⟨fun ⟨T, b', e, hb, h⟩ => by
  cases e
  exact (Option.some.inj (show some false = some b' from hb)) ▸ h, fun h => ⟨"tuple", false, rfl, rfl, h⟩⟩
theorem gIsi_int_list {ds : List PyData} {S : Kd → Prop} : gIsi "int" (.dat (.list ds)) S ↔ S (.dat (.bool false)) := ⟨fun ⟨T, b', e, hb, h⟩ => by
  cases e
  exact (Option.some.inj (show some false = some b' from hb)) ▸ h, fun h => ⟨"list", false, rfl, rfl, h⟩⟩
theorem gIsi_int_own {l : Addr} {ds : List PyData} {S : Kd → Prop} : gIsi "int" (.own l ds) S ↔ S (.dat (.bool false)) := ⟨fun ⟨T, b', e, hb, h⟩ => by
  cases e
  exact (Option.some.inj (show some false = some b' from hb)) ▸ h, fun h => ⟨"list", false, rfl, rfl, h⟩⟩
theorem gIsi_int_new {ds : List PyData} {S : Kd → Prop} : gIsi "int" (.new ds) S ↔ S (.dat (.bool false)) := ⟨fun ⟨T, b', e, hb, h⟩ => by
  cases e
  exact (Option.some.inj (show some false = some b' from hb)) ▸ h, fun h => ⟨"list", false, rfl, rfl, h⟩⟩
theorem gIsi_bool_none {S : Kd → Prop} : gIsi "bool" (.dat .none) S ↔ S (.dat (.bool false)) := ⟨fun ⟨T, b', e, hb, h⟩ => by
  cases e
  exact (Option.some.inj (show some false = some b' from hb)) ▸ h, fun h => ⟨"NoneType", false, rfl, rfl, h⟩⟩
theorem gIsi_bool_bool {b : Bool} {S : Kd → Prop} : gIsi "bool" (.dat (.bool b)) S ↔ S (.dat (.bool true)) := ⟨fun ⟨T, b', e, hb, h⟩ => by
  cases e
  exact (Option.some.inj (show some true = some b' from hb)) ▸ h, fun h => ⟨"bool", true, rfl, rfl, h⟩⟩
theorem gIsi_bool_int {i : Int} {S : Kd → Prop} : gIsi "bool" (.dat (.int i)) S ↔ S (.dat (.bool false)) := ⟨fun ⟨T, b', e, hb, h⟩ => by
  cases e
  exact (Option.some.inj (show some false = some b' from hb)) ▸ h, fun h => ⟨"int", false, rfl, rfl, h⟩⟩
theorem gIsi_bool_str {z : Str} {S : Kd → Prop} : gIsi "bool" (.dat (.str z)) S ↔ S (.dat (.bool false)) := ⟨fun ⟨T, b', e, hb, h⟩ => by
  cases e
  exact (Option.some.inj (show some false = some b' from hb)) ▸ h, fun h => ⟨"str", false, rfl, rfl, h⟩⟩
theorem gIsi_bool_tuple {ds : List PyData} {S : Kd → Prop} : gIsi "bool" (.dat (.tuple ds)) S ↔ S (.dat (.bool false)) := ⟨fun ⟨T, b', e, hb, h⟩ => by
  cases e
  exact (Option.some.inj (show some false = some b' from hb)) ▸ h, fun h => ⟨"tuple", false, rfl, rfl, h⟩⟩
theorem gIsi_bool_list {ds : List PyData} {S : Kd → Prop} : gIsi "bool" (.dat (.list ds)) S ↔ S (.dat (.bool false)) := ⟨fun ⟨T, b', e, hb, h⟩ => by
  cases e
  exact (Option.some.inj (show some false = some b' from hb)) ▸ h, fun h => ⟨"list", false, rfl, rfl, h⟩⟩
theorem gIsi_bool_own {l : Addr} {ds : List PyData} {S : Kd → Prop} : gIsi "bool" (.own l ds) S ↔ S (.dat (.bool false)) := ⟨fun ⟨T, b', e, hb, h⟩ => by
  cases e
  exact (Option.some.inj (show some false = some b' from hb)) ▸ h, fun h => ⟨"list", false, rfl, rfl, h⟩⟩
theorem gIsi_bool_new {ds : List PyData} {S : Kd → Prop} : gIsi "bool" (.new ds) S ↔ S (.dat (.bool false)) := ⟨fun ⟨T, b', e, hb, h⟩ => by
  cases e
  exact (Option.some.inj (show some false = some b' from hb)) ▸ h, fun h => ⟨"list", false, rfl, rfl, h⟩⟩
theorem gIsi_tuple_none {S : Kd → Prop} : gIsi "tuple" (.dat .none) S ↔ S (.dat (.bool false)) := ⟨fun ⟨T, b', e, hb, h⟩ => by
  cases e
  exact (Option.some.inj (show some false = some b' from hb)) ▸ h, fun h => ⟨"NoneType", false, rfl, rfl, h⟩⟩
theorem gIsi_tuple_bool {b : Bool} {S : Kd → Prop} : gIsi "tuple" (.dat (.bool b)) S ↔ S (.dat (.bool false)) := ⟨fun ⟨T, b', e, hb, h⟩ => by
  cases e
  exact (Option.some.inj (show some false = some b' from hb)) ▸ h, fun h => ⟨"bool", false, rfl, rfl, h⟩⟩
theorem gIsi_tuple_int {i : Int} {S : Kd → Prop} : gIsi "tuple" (.dat (.int i)) S ↔ S (.dat (.bool false)) := ⟨fun ⟨T, b', e, hb, h⟩ => by
  cases e
  exact (Option.some.inj (show some false = some b' from hb)) ▸ h, fun h => ⟨"int", false, rfl, rfl, h⟩⟩
theorem gIsi_tuple_str {z : Str} {S : Kd → Prop} : gIsi "tuple" (.dat (.str z)) S ↔ S (.dat (.bool false)) := ⟨fun ⟨T, b', e, hb, h⟩ => by
  cases e
  exact (Option.some.inj (show some false = some b' from hb)) ▸ h, fun h => ⟨"str", false, rfl, rfl, h⟩⟩
theorem gIsi_tuple_tuple {ds : List PyData} {S : Kd → Prop} : gIsi "tuple" (.dat (.tuple ds)) S ↔ S (.dat (.bool true)) := ⟨fun ⟨T, b', e, hb, h⟩ => by
  cases e
  exact (Option.some.inj (show some true = some b' from hb)) ▸ h, fun h => ⟨"tuple", true, rfl, rfl, h⟩⟩
theorem gIsi_tuple_list {ds : List PyData} {S : Kd → Prop} : gIsi "tuple" (.dat (.list ds)) S ↔ S (.dat (.bool false)) := ⟨fun ⟨T, b', e, hb, h⟩ => by
  cases e
  exact (Option.some.inj (show some false = some b' from hb)) ▸ h, fun h => ⟨"list", false, rfl, rfl, h⟩⟩
theorem gIsi_tuple_own {l : Addr} {ds : List PyData} {S : Kd → Prop} : gIsi "tuple" (.own l ds) S ↔ S (.dat (.bool false)) := ⟨fun ⟨T, b', e, hb, h⟩ => by
  cases e
  exact (Option.some.inj (show some false = some b' from hb)) ▸ h, fun h => ⟨"list", false, rfl, rfl, h⟩⟩
theorem gIsi_tuple_new {ds : List PyData} {S : Kd → Prop} : gIsi "tuple" (.new ds) S ↔ S (.dat (.bool false)) := ⟨fun ⟨T, b', e, hb, h⟩ => by
  cases e
  exact (Option.some.inj (show some false = some b' from hb)) ▸ h, fun h => ⟨"list", false, rfl, rfl, h⟩⟩
theorem gIsi_str_none {S : Kd → Prop} : gIsi "str" (.dat .none) S ↔ S (.dat (.bool false)) := ⟨fun ⟨T, b', e, hb, h⟩ => by
  cases e
  exact (Option.some.inj (show some false = some b' from hb)) ▸ h, fun h => ⟨"NoneType", false, rfl, rfl, h⟩⟩
theorem gIsi_str_bool {b : Bool} {S : Kd → Prop} : gIsi "str" (.dat (.bool b)) S ↔ S (.dat (.bool false)) := ⟨fun ⟨T, b', e, hb, h⟩ => by
  cases e
  exact (Option.some.inj (show some false = some b' from hb)) ▸ h, fun h => ⟨"bool", false, rfl, rfl, h⟩⟩
theorem gIsi_str_int {i : Int} {S : Kd → Prop} : gIsi "str" (.dat (.int i)) S ↔ S (.dat (.bool false)) := ⟨fun ⟨T, b', e, hb, h⟩ => by
  cases e
  exact (Option.some.inj (show some false = some b' from hb)) ▸ h, fun h => ⟨"int", false, rfl, rfl, h⟩⟩
theorem gIsi_str_str {z : Str} {S : Kd → Prop} : gIsi "str" (.dat (.str z)) S ↔ S (.dat (.bool true)) := ⟨fun ⟨T, b', e, hb, h⟩ => by
  cases e
  exact (Option.some.inj (show some true = some b' from hb)) ▸ h, fun h => ⟨"str", true, rfl, rfl, h⟩⟩
theorem gIsi_str_tuple {ds : List PyData} {S : Kd → Prop} : gIsi "str" (.dat (.tuple ds)) S ↔ S (.dat (.bool false)) := ⟨fun ⟨T, b', e, hb, h⟩ => by
  cases e
  exact (Option.some.inj (show some false = some b' from hb)) ▸ h, fun h => ⟨"tuple", false, rfl, rfl, h⟩⟩
theorem gIsi_str_list {ds : List PyData} {S : Kd → Prop} : gIsi "str" (.dat (.list ds)) S ↔ S (.dat (.bool false)) := ⟨fun ⟨T, b', e, hb, h⟩ => by
  cases e
  exact (Option.some.inj (show some false = some b' from hb)) ▸ h, fun h => ⟨"list", false, rfl, rfl, h⟩⟩
theorem gIsi_str_own {l : Addr} {ds : List PyData} {S : Kd → Prop} : gIsi "str" (.own l ds) S ↔ S (.dat (.bool false)) := ⟨fun ⟨T, b', e, hb, h⟩ => by
  cases e
  exact (Option.some.inj (show some false = some b' from hb)) ▸ h, fun h => ⟨"list", false, rfl, rfl, h⟩⟩
theorem gIsi_str_new {ds : List PyData} {S : Kd → Prop} : gIsi "str" (.new ds) S ↔ S (.dat (.bool false)) := ⟨fun ⟨T, b', e, hb, h⟩ => by
  cases e
  exact (Option.some.inj (show some false = some b' from hb)) ▸ h, fun h => ⟨"list", false, rfl, rfl, h⟩⟩
theorem gIsi_list_none {S : Kd → Prop} : gIsi "list" (.dat .none) S ↔ S (.dat (.bool false)) := ⟨fun ⟨T, b', e, hb, h⟩ => by
  cases e
  exact (Option.some.inj (show some false = some b' from hb)) ▸ h, fun h => ⟨"NoneType", false, rfl, rfl, h⟩⟩
theorem gIsi_list_bool {b : Bool} {S : Kd → Prop} : gIsi "list" (.dat (.bool b)) S ↔ S (.dat (.bool false)) := ⟨fun ⟨T, b', e, hb, h⟩ => by
  cases e
  exact (Option.some.inj (show some false = some b' from hb)) ▸ h, fun h => ⟨"bool", false, rfl, rfl, h⟩⟩
theorem gIsi_list_int {i : Int} {S : Kd → Prop} : gIsi "list" (.dat (.int i)) S ↔ S (.dat (.bool false)) := ⟨fun ⟨T, b', e, hb, h⟩ => by
  cases e
  exact (Option.some.inj (show some false = some b' from hb)) ▸ h, fun h => ⟨"int", false, rfl, rfl, h⟩⟩
theorem gIsi_list_str {z : Str} {S : Kd → Prop} : gIsi "list" (.dat (.str z)) S ↔ S (.dat (.bool false)) := ⟨fun ⟨T, b', e, hb, h⟩ => by
  cases e
  exact (Option.some.inj (show some false = some b' from hb)) ▸ h, fun h => ⟨"str", false, rfl, rfl, h⟩⟩
theorem gIsi_list_tuple {ds : List PyData} {S : Kd → Prop} : gIsi "list" (.dat (.tuple ds)) S ↔ S (.dat (.bool false)) := ⟨fun ⟨T, b', e, hb, h⟩ => by
  cases e
  exact (Option.some.inj (show some false = some b' from hb)) ▸ h, fun h => ⟨"tuple", false, rfl, rfl, h⟩⟩
theorem gIsi_list_list {ds : List PyData} {S : Kd → Prop} : gIsi "list" (.dat (.list ds)) S ↔ S (.dat (.bool true)) := ⟨fun ⟨T, b', e, hb, h⟩ => by
  cases e
  exact (Option.some.inj (show some true = some b' from hb)) ▸ h, fun h => ⟨"list", true, rfl, rfl, h⟩⟩
theorem gIsi_list_own {l : Addr} {ds : List PyData} {S : Kd → Prop} : gIsi "list" (.own l ds) S ↔ S (.dat (.bool true)) := ⟨fun ⟨T, b', e, hb, h⟩ => by
  cases e
  exact (Option.some.inj (show some true = some b' from hb)) ▸ h, fun h => ⟨"list", true, rfl, rfl, h⟩⟩
theorem gIsi_list_new {ds : List PyData} {S : Kd → Prop} : gIsi "list" (.new ds) S ↔ S (.dat (.bool true)) := ⟨fun ⟨T, b', e, hb, h⟩ => by
  cases e
  exact (Option.some.inj (show some true = some b' from hb)) ▸ h, fun h => ⟨"list", true, rfl, rfl, h⟩⟩
theorem isNon_n : isNon .none = true := rfl
theorem isNon_i {i : Int} : isNon (.int i) = false := rfl
theorem isNon_b {i : Bool} : isNon (.bool i) = false := rfl
theorem isNon_s {i : Str} : isNon (.str i) = false := rfl
theorem isNon_t {i : List PyData} : isNon (.tuple i) = false := rfl
theorem isNon_l {i : List PyData} : isNon (.list i) = false := rfl
theorem isNon_d {i : List (PyData × PyData)} : isNon (.dict i) = false := rfl
/-! data without instances -/
def okD : PyData → Bool
  | .dict _ => false
  | _ => true
def isT (n : String) (d : PyData) : Bool := match tyK (.dat d) with
  | some T => kitB T n == some true
  | none => false
theorem gIsi_t {n : String} {d : PyData} {S : Kd → Prop} (h : okD d = true) (hn : n ∈ ["int", "bool", "tuple", "str", "list"]) (s : S (.dat (.bool (isT n d)))) : gIsi n (.dat d) S := by
  have k : ∀ T ∈ ["NoneType", "bool", "int", "str", "tuple", "list"], ∃ b, kitB T n = some b ∧ (kitB T n == some true) = b := by
    simp only [List.mem_cons, List.not_mem_nil, or_false] at hn
    intro T hT
    simp only [List.mem_cons, List.not_mem_nil, or_false] at hT
    rcases hn with rfl | rfl | rfl | rfl | rfl <;> rcases hT with rfl | rfl | rfl | rfl | rfl | rfl <;> exact ⟨_, rfl, rfl⟩
  obtain ⟨T, e⟩ : ∃ T, tyK (.dat d) = some T := by cases d <;> first | exact ⟨_, rfl⟩ | cases h
  obtain ⟨b, hb, hb2⟩ := k T (tyK_mem e)
  refine ⟨T, b, e, hb, ?_⟩
  unfold isT at s
  rw [e] at s
  simp only at s
  rw [hb2] at s
  exact s
end Mh
namespace Mh
open PySem PySem.Spec PyProof.Rows L2 TL
local macro_rules | `(tactic| k_updF) => `(tactic| try simp only [gV_some, gI0_i, gII_i, gAdd_i, gAdd_s, gAdd_t, gAdd_nn, gAdd_on, gAdd_no, gMul_i, gNon_d, gNeg_i, gPart_i, gSl_s, gSl_t, gSl_o, gSl_n, gSl_l, gLen_s, gLen_t, gLen_l, gLen_o, gLen_n, gInt_i, gStr_i, gTupC_n, gTupC_o, gTupC_l, gTupC_t, gII2_i, gB_b, gTr_b, gIf_t, gIf_f, gTx_s, gSplit_s, gRng1_i, gRng2_i, gR1_i, gOwn_o, gItem_d, gItem_n, gAug_i, gInt1_i, gPair_t, gFmt_s, gFmt_i, gJn_s, NxA, RtK, rdK, List.length_cons, List.length_nil, Nat.reduceAdd, Nat.reduceSub, Nat.reduceLT, List.replicate_succ, List.replicate_zero, List.cons_append, List.nil_append, List.append_nil, List.getElem?_cons_zero, List.getElem?_cons_succ, List.set_cons_zero, List.set_cons_succ, true_and, and_true, isNon_n, isNon_i, isNon_b, isNon_s, isNon_t, isNon_l, isNon_d, Bool.not_true, Bool.not_false, id_eq, lcR, notOwn, gIsi_int_none, gIsi_int_bool, gIsi_int_int, gIsi_int_str, gIsi_int_tuple, gIsi_int_list, gIsi_int_own, gIsi_int_new, gIsi_bool_none, gIsi_bool_bool, gIsi_bool_int, gIsi_bool_str, gIsi_bool_tuple, gIsi_bool_list, gIsi_bool_own, gIsi_bool_new, gIsi_tuple_none, gIsi_tuple_bool, gIsi_tuple_int, gIsi_tuple_str, gIsi_tuple_tuple, gIsi_tuple_list, gIsi_tuple_own, gIsi_tuple_new, gIsi_str_none, gIsi_str_bool, gIsi_str_int, gIsi_str_str, gIsi_str_tuple, gIsi_str_list, gIsi_str_own, gIsi_str_new, gIsi_list_none, gIsi_list_bool, gIsi_list_int, gIsi_list_str, gIsi_list_tuple, gIsi_list_list, gIsi_list_own, gIsi_list_new])
local macro_rules | `(tactic| k_keys) => `(tactic| first | exact ⟨.inr rfl, rfl⟩ | exact .inr rfl | rfl | trivial | (refine ⟨.inr ?_, rfl⟩; assumption) | (refine .inr ?_; assumption))
/-! ### numbers in words -/
abbrev nwV (z : Str) : PyData := numV z 4000
def A_anyn : At := fun ks S Z => ∃ z : Str, ks = [.dat (.str z)] ∧ z.length ≤ 640 ∧ S = (fun k => k = .dat (nwV z)) ∧ Z = noZ
abbrev sp_any_number (K : PySem.W.Frag) : Sp := SpP K A_anyn
def n1V (z : Str) : PyData := match nwV z with
  | .int 0 => .none
  | d => d
def A_from1 : At := fun ks S Z => ∃ z : Str, ks = [.dat (.str z)] ∧ z.length ≤ 640 ∧ S = (fun k => k = .dat (n1V z)) ∧ Z = noZ
abbrev sp_number_from_one (K : PySem.W.Frag) : Sp := SpP K A_from1
def nbV (p : Int) (z : Str) : PyData := match nwV z with
  | .int n => if p ≤ n then .none else .int n
  | _ => .none
def A_nbelow : At := fun ks S Z => ∃ (z : Str) (p : Int), ks = [.dat (.str z), .dat (.int p)] ∧ z.length ≤ 640 ∧ S = (fun k => k = .dat (nbV p z)) ∧ Z = noZ
abbrev sp_number_below (K : PySem.W.Frag) : Sp := SpP K A_nbelow
def nbsV (ws : List Str) (m p : Int) : PyData := if decide ((ws.length : Int) = m) && !(ws.map (nbV p)).any isNon then .tuple (ws.map (nbV p)) else .none
def A_nsbelow : At := fun ks S Z => ∃ (ws : List Str) (m p : Int), ks = [.dat (.list (ws.map .str)), .dat (.int m), .dat (.int p)] ∧ (∀ w ∈ ws, w.length ≤ 640) ∧ ws.length ≤ 100000 ∧ S = (fun k => k = .dat (nbsV ws m p)) ∧ Z = noZ
abbrev sp_numbers_below (K : PySem.W.Frag) : Sp := SpP K A_nsbelow
abbrev t_any_number (K : PySem.W.Frag) : TS := (tRet (tCall (sp_number_of K) [] E0 (tCons (tVar 0) (tCons (tC (.int 4000)) tNil))))
abbrev t_number_from_one (K : PySem.W.Frag) : TS := (tSeq (tAsg (tCall (sp_any_number K) [] E0 (tCons (tVar 0) tNil)) (gName 1))
  (tRet (tIf (tTest (tOp (rEqP K) (tVar 1) (tC (.int 0)))) (tC .non) (tVar 1))))
abbrev t_number_below (K : PySem.W.Frag) : TS := (tSeq (tAsg (tCall (sp_any_number K) [] E0 (tCons (tVar 0) tNil)) (gName 2))
  (tSeq (tIfS (tOr (tTest (tOp rIsN (tVar 2) (tC .non))) (tTest (tOp rGeI (tVar 2) (tVar 1)))) (tRet (tC .non)) tNext)
  (tRet (tVar 2))))
abbrev t_numbers_below (K : PySem.W.Frag) : TS := (tSeq (tAsg (tLc (iAny K (tVar 0)) (gName 4) tYes (tCall (sp_number_below K) [] E0 (tCons (tVar 4) (tCons (tVar 2) tNil))) [4]) (gName 3))
  (tSeq (tIfS (tOr (tTest (tOp (rNeP K) (tCB (rLenP K) (tCons (tVar 3) tNil)) (tVar 1))) (tTest (tOp (rInD K) (tC .non) (tVar 3)))) (tRet (tC .non)) tNext)
  (tRet (tCB (rTupP K) (tCons (tVar 3) tNil)))))
theorem nwV_or (z : Str) : nwV z = .none ∨ ∃ n : Nat, nwV z = .int (n : Nat) := by
  unfold nwV numV
  split
  · exact .inl rfl
  · exact .inr ⟨_, rfl⟩
section
variable {K : PySem.W.Frag} {vs : List V} {H : Hp} {Q : VK} {E : XK}
theorem go_any_number (h : sp_any_number K vs H Q E) : t_any_number K { nx := fun _ H' => Q .non H', rt := Q } (L2.start ["word"] vs) H := by
  refine sp_wp h (fun E => inferInstance) ?_
  rintro C ks S Z hK hfr hZ ⟨z, rfl, hz, rfl, rfl⟩
  have big := sl_big
  k_updF
  refine gCall_of (A := A_num) rfl ⟨z, 4000, rfl, by omega, .inr hz, rfl, rfl⟩ (imp_eq ?_)
  k_updF
  have n1 : nl (numV z 4000) = true := by
    rcases nwV_or z with e | ⟨n, e⟩ <;> rw [show numV z 4000 = _ from e] <;> rfl
  k_keys
theorem nbV_or (p : Int) (z : Str) : nbV p z = .none ∨ ∃ n : Nat, nbV p z = .int (n : Nat) ∧ (n : Int) < p ∧ nwV z = .int (n : Nat) := by
  unfold nbV
  rcases nwV_or z with e | ⟨n, e⟩
  · rw [e]; exact .inl rfl
  · rw [e]
    by_cases h : p ≤ n
    · exact .inl (if_pos h)
    · exact .inr ⟨n, if_neg h, by omega, rfl⟩
theorem n1V_or (z : Str) : n1V z = .none ∨ ∃ n : Nat, n1V z = .int (n : Nat) ∧ 1 ≤ n ∧ nwV z = .int (n : Nat) := by
  unfold n1V
  rcases nwV_or z with e | ⟨n, e⟩
  · rw [e]; exact .inl rfl
  · rw [e]
    by_cases h : n = 0
    · subst h; exact .inl rfl
    · refine .inr ⟨n, ?_, by omega, rfl⟩
      split
      · rename_i h2
        exact absurd (by simpa using h2) h
      · rfl
theorem go_number_from_one (h : sp_number_from_one K vs H Q E) : t_number_from_one K { nx := fun _ H' => Q .non H', rt := Q } (L2.start ["word", "number"] vs) H := by
  refine sp_wp h (fun E => inferInstance) ?_
  rintro C ks S Z hK hfr hZ ⟨z, rfl, hz, rfl, rfl⟩
  k_updF
  refine gCall_of (A := A_anyn) rfl ⟨z, rfl, hz, rfl, rfl⟩ (imp_eq ?_)
  rcases nwV_or z with e | ⟨n, e⟩
  · have e1 : n1V z = .none := by unfold n1V; rw [e]
    rw [e, e1]
    k_updF
    refine gEq_d rfl rfl rfl rfl ?_
    rw [show PyData.eqv .none (.int 0) = false from rfl]
    k_updF
    k_keys
  · rw [e]
    k_updF
    refine gEq_i ?_
    k_updF
    refine ⟨fun h => ⟨.inr rfl, ?_⟩, fun h => ⟨.inr rfl, ?_⟩⟩
    · have : n = 0 := by simpa using h
      unfold n1V; rw [e, this]; rfl
    · have : n ≠ 0 := by simpa using h
      rcases n1V_or z with e2 | ⟨m, e2, _, e3⟩
      · unfold n1V at e2; rw [e] at e2
        split at e2
        · rename_i h2
          exact absurd (by simpa using h2) this
        · cases e2
      · rw [e] at e3
        rw [e2, e3]
theorem go_number_below (h : sp_number_below K vs H Q E) : t_number_below K { nx := fun _ H' => Q .non H', rt := Q } (L2.start ["word", "limit", "number"] vs) H := by
  refine sp_wp h (fun E => inferInstance) ?_
  rintro C ks S Z hK hfr hZ ⟨z, p, rfl, hz, rfl, rfl⟩
  k_updF
  refine gCall_of (A := A_anyn) rfl ⟨z, rfl, hz, rfl, rfl⟩ (imp_eq ?_)
  rcases nwV_or z with e | ⟨n, e⟩
  · have e1 : nbV p z = .none := by unfold nbV; rw [e]
    rw [e, e1]
    k_updF
    k_keys
  · rw [e]
    k_updF
    unfold nbV
    rw [e]
    simp only
    constructor
    · intro h
      rw [if_pos (by simpa using h)]
      exact ⟨.inr rfl, rfl⟩
    · intro h
      rw [if_neg (by simpa using h)]
      exact ⟨.inr rfl, rfl⟩
end
end Mh
namespace Mh
open PySem PySem.Spec PyProof.Rows L2 TL
local macro_rules | `(tactic| k_updF) => `(tactic| try simp only [gV_some, gI0_i, gII_i, gAdd_i, gAdd_s, gAdd_t, gAdd_nn, gAdd_on, gAdd_no, gMul_i, gNon_d, gNeg_i, gPart_i, gSl_s, gSl_t, gSl_o, gSl_n, gSl_l, gLen_s, gLen_t, gLen_l, gLen_o, gLen_n, gInt_i, gStr_i, gTupC_n, gTupC_o, gTupC_l, gTupC_t, gII2_i, gB_b, gTr_b, gIf_t, gIf_f, gTx_s, gSplit_s, gRng1_i, gRng2_i, gR1_i, gOwn_o, gItem_d, gItem_n, gAug_i, gInt1_i, gPair_t, gFmt_s, gFmt_i, gJn_s, NxA, RtK, rdK, List.length_cons, List.length_nil, Nat.reduceAdd, Nat.reduceSub, Nat.reduceLT, List.replicate_succ, List.replicate_zero, List.cons_append, List.nil_append, List.append_nil, List.getElem?_cons_zero, List.getElem?_cons_succ, List.set_cons_zero, List.set_cons_succ, true_and, and_true, isNon_n, isNon_i, isNon_b, isNon_s, isNon_t, isNon_l, isNon_d, Bool.not_true, Bool.not_false, id_eq, lcR, notOwn, gIsi_int_none, gIsi_int_bool, gIsi_int_int, gIsi_int_str, gIsi_int_tuple, gIsi_int_list, gIsi_int_own, gIsi_int_new, gIsi_bool_none, gIsi_bool_bool, gIsi_bool_int, gIsi_bool_str, gIsi_bool_tuple, gIsi_bool_list, gIsi_bool_own, gIsi_bool_new, gIsi_tuple_none, gIsi_tuple_bool, gIsi_tuple_int, gIsi_tuple_str, gIsi_tuple_tuple, gIsi_tuple_list, gIsi_tuple_own, gIsi_tuple_new, gIsi_str_none, gIsi_str_bool, gIsi_str_int, gIsi_str_str, gIsi_str_tuple, gIsi_str_list, gIsi_str_own, gIsi_str_new, gIsi_list_none, gIsi_list_bool, gIsi_list_int, gIsi_list_str, gIsi_list_tuple, gIsi_list_list, gIsi_list_own, gIsi_list_new])
local macro_rules | `(tactic| k_keys) => `(tactic| first | exact ⟨.inr rfl, rfl⟩ | exact .inr rfl | rfl | trivial | (refine ⟨.inr ?_, rfl⟩; assumption) | (refine .inr ?_; assumption))

/-! ### lists of numbers in words -/


def unS : PyData → Str
  | .str w => w
  | _ => ⟨#[]⟩
theorem take_succ_ofI {α : Type} {a : α} {ds : List α} {n : Nat} (h : ds[n]? = some a) : ds.take (n + 1) = ds.take n ++ [a] := by
  rw [List.take_succ, h]
  rfl
theorem lof {α : Type} {xs : List α} {n : Nat} {a : α} (h : xs[n]? = some a) : a ∈ xs := List.mem_of_getElem? h
theorem any_none (es : List PyData) : (es.any fun z => PyData.eqv z .none) = es.any isNon := by
  induction es with
  | nil => rfl
  | cons a r ih =>
    rw [List.any_cons, List.any_cons, ih]
    congr 1
    cases a <;> rfl
theorem nbV_nl (p : Int) (z : Str) : nl (nbV p z) = true := by
  rcases nbV_or p z with e | ⟨n, e, _⟩ <;> rw [e] <;> rfl
theorem nbV_sh (p : Int) (z : Str) : (nbV p z).canLay0 = true ∧ (nbV p z).depth = 0 := by
  rcases nbV_or p z with e | ⟨n, e, _⟩ <;> rw [e] <;> exact ⟨rfl, rfl⟩
/-! ### flat shapes -/
def Sh (n : Nat) (d : PyData) : Prop := d.canLay0 = true ∧ d.depth ≤ n
theorem Sh.shaped {n : Nat} {d : PyData} (h : Sh n d) (hn : n ≤ 64 := by decide) : SeqAt.shaped d = true := by
  unfold SeqAt.shaped
  rw [h.1, decide_eq_true (Nat.le_trans h.2 hn)]
  rfl
theorem Sh.mono {n m : Nat} {d : PyData} (h : Sh n d) (hn : n ≤ m) : Sh m d := ⟨h.1, Nat.le_trans h.2 hn⟩
theorem Sh.all {n : Nat} : ∀ {ds : List PyData}, (∀ d ∈ ds, Sh n d) → PyData.canLayAll0 ds = true ∧ PyData.depthAll ds ≤ n
  | [], _ => ⟨rfl, Nat.zero_le _⟩
  | d :: ds, h => by
    obtain ⟨h1, h2⟩ := Sh.all (ds := ds) fun x hx => h x (List.mem_cons_of_mem _ hx)
    obtain ⟨g1, g2⟩ := h d List.mem_cons_self
    simp only [PyData.canLayAll0, PyData.depthAll, h1, g1]
    exact ⟨rfl, by omega⟩
theorem Sh.l {n : Nat} {ds : List PyData} (h : ∀ d ∈ ds, Sh n d) : Sh (n + 1) (.list ds) := by
  obtain ⟨h1, h2⟩ := Sh.all h
  unfold Sh
  simp only [PyData.canLay0, PyData.depth]
  exact ⟨h1, by omega⟩
theorem Sh.t {n : Nat} {ds : List PyData} (h : ∀ d ∈ ds, Sh n d) : Sh (n + 1) (.tuple ds) := by
  obtain ⟨h1, h2⟩ := Sh.all h
  unfold Sh
  simp only [PyData.canLay0, PyData.depth]
  exact ⟨h1, by omega⟩
theorem nl_t {ds : List PyData} (h : ∀ d ∈ ds, nl d = true) : nl (.tuple ds) = true := by
  simp only [nl]
  induction ds with
  | nil => rfl
  | cons a r ih =>
    simp only [nl.nlAll, h a List.mem_cons_self, Bool.true_and]
    exact ih fun d hd => h d (List.mem_cons_of_mem _ hd)
section
variable {K : PySem.W.Frag} {vs : List V} {H : Hp} {Q : VK} {E : XK}
theorem go_numbers_below (h : sp_numbers_below K vs H Q E) : t_numbers_below K { nx := fun _ H' => Q .non H', rt := Q } (L2.start ["words", "many", "limit", "numbers", "word"] vs) H := by
  refine sp_wp h (fun E => inferInstance) ?_
  rintro C ks S Z hK hfr hZ ⟨ws, m, p, rfl, hw, hl, rfl, rfl⟩
  have big := sl_big
  k_updF
  refine ⟨_, rfl, gLc_map (fun d => nbV p (unS d)) rfl (by rw [List.length_map]; omega) (fun ρ S s => s) ?_ ?_⟩
  · intro n a ea
    rw [List.getElem?_map] at ea
    obtain ⟨w, hw1, rfl⟩ := Option.map_eq_some_iff.mp ea
    refine ⟨nbV_nl _ _, fun S s => ?_⟩
    k_updF
    exact gCall_of (A := A_nbelow) rfl ⟨w, p, rfl, hw w (lof hw1), rfl, rfl⟩ (imp_eq s)
  · k_updF
    intro l
    rw [List.map_map]
    have em : (ws.map ((fun d => nbV p (unS d)) ∘ PyData.str)) = ws.map (nbV p) := rfl
    rw [em]
    refine gEq_i ?_
    k_updF
    rw [List.length_map]
    have sh : SeqAt.shaped (.list (ws.map (nbV p))) = true := (Sh.l (n := 0) fun d hd => by
      obtain ⟨w, _, rfl⟩ := List.mem_map.mp hd
      exact ⟨(nbV_sh p w).1, Nat.le_of_eq (nbV_sh p w).2⟩).shaped
    refine ⟨fun h => ?_, fun h => ?_⟩
    · unfold nbsV
      rw [show decide ((ws.length : Int) = m) = false by simpa using h]
      k_keys
    · refine gInD_of rfl rfl rfl sh ?_
      k_updF
      rw [any_none]
      unfold nbsV
      rw [show decide ((ws.length : Int) = m) = true by simpa using h]
      cases e : (ws.map (nbV p)).any isNon with
      | true => k_updF; k_keys
      | false =>
        k_updF
        have n1 : nl (.tuple (ws.map (nbV p))) = true := nl_t fun d hd => by
          obtain ⟨w, _, rfl⟩ := List.mem_map.mp hd
          exact nbV_nl p w
        exact ⟨.inr n1, rfl⟩
end
end Mh
namespace Mh
open PySem PySem.Spec PyProof.Rows L2 TL
local macro_rules | `(tactic| k_updF) => `(tactic| try simp only [gV_some, gI0_i, gII_i, gAdd_i, gAdd_s, gAdd_t, gAdd_nn, gAdd_on, gAdd_no, gMul_i, gNon_d, gNeg_i, gPart_i, gSl_s, gSl_t, gSl_o, gSl_n, gSl_l, gLen_s, gLen_t, gLen_l, gLen_o, gLen_n, gInt_i, gStr_i, gTupC_n, gTupC_o, gTupC_l, gTupC_t, gII2_i, gB_b, gTr_b, gIf_t, gIf_f, gTx_s, gSplit_s, gRng1_i, gRng2_i, gR1_i, gOwn_o, gItem_d, gItem_n, gAug_i, gInt1_i, gPair_t, gFmt_s, gFmt_i, gJn_s, NxA, RtK, rdK, List.length_cons, List.length_nil, Nat.reduceAdd, Nat.reduceSub, Nat.reduceLT, List.replicate_succ, List.replicate_zero, List.cons_append, List.nil_append, List.append_nil, List.getElem?_cons_zero, List.getElem?_cons_succ, List.set_cons_zero, List.set_cons_succ, true_and, and_true, isNon_n, isNon_i, isNon_b, isNon_s, isNon_t, isNon_l, isNon_d, Bool.not_true, Bool.not_false, id_eq, lcR, notOwn, gIsi_int_none, gIsi_int_bool, gIsi_int_int, gIsi_int_str, gIsi_int_tuple, gIsi_int_list, gIsi_int_own, gIsi_int_new, gIsi_bool_none, gIsi_bool_bool, gIsi_bool_int, gIsi_bool_str, gIsi_bool_tuple, gIsi_bool_list, gIsi_bool_own, gIsi_bool_new, gIsi_tuple_none, gIsi_tuple_bool, gIsi_tuple_int, gIsi_tuple_str, gIsi_tuple_tuple, gIsi_tuple_list, gIsi_tuple_own, gIsi_tuple_new, gIsi_str_none, gIsi_str_bool, gIsi_str_int, gIsi_str_str, gIsi_str_tuple, gIsi_str_list, gIsi_str_own, gIsi_str_new, gIsi_list_none, gIsi_list_bool, gIsi_list_int, gIsi_list_str, gIsi_list_tuple, gIsi_list_list, gIsi_list_own, gIsi_list_new])
local macro_rules | `(tactic| k_keys) => `(tactic| first | exact ⟨.inr rfl, rfl⟩ | exact .inr rfl | rfl | trivial | (refine ⟨.inr ?_, rfl⟩; assumption) | (refine .inr ?_; assumption))

/-! ### checks of numbers, rows, halls -/
def isI : PyData → Bool
  | .int _ => true
  | _ => false
def A_isint : At := fun ks S Z => ∃ d, ks = [.dat d] ∧ okD d = true ∧ S = (fun k => k = .dat (.bool (isI d))) ∧ Z = noZ
abbrev sp_is_integer (K : PySem.W.Frag) : Sp := SpP K A_isint
def inB (p : Int) : PyData → Bool
  | .int i => decide (0 ≤ i) && decide (i < p)
  | _ => false
def A_inb : At := fun ks S Z => ∃ (d : PyData) (p : Int), ks = [.dat d, .dat (.int p)] ∧ okD d = true ∧ S = (fun k => k = .dat (.bool (inB p d))) ∧ Z = noZ
abbrev sp_is_number_below (K : PySem.W.Frag) : Sp := SpP K A_inb
def i1B : PyData → Bool
  | .int i => decide (1 ≤ i)
  | _ => false
def A_i1 : At := fun ks S Z => ∃ d, ks = [.dat d] ∧ okD d = true ∧ S = (fun k => k = .dat (.bool (i1B d))) ∧ Z = noZ
abbrev sp_is_from_one (K : PySem.W.Frag) : Sp := SpP K A_i1
def anB (m p : Int) : PyData → Bool
  | .tuple ds => decide ((ds.length : Int) = m) && ds.all (inB p)
  | _ => false
def ok1 : PyData → Bool
  | .tuple ds => ds.all okD && decide (ds.length ≤ 100000)
  | d => okD d
def A_anb : At := fun ks S Z => ∃ (d : PyData) (m p : Int), ks = [.dat d, .dat (.int m), .dat (.int p)] ∧ ok1 d = true ∧ S = (fun k => k = .dat (.bool (anB m p d))) ∧ Z = noZ
abbrev sp_are_numbers_below (K : PySem.W.Frag) : Sp := SpP K A_anb
def arB (m p : Int) : PyData → Bool
  | .tuple ds => ds.all (anB m p)
  | _ => false
def ok2 : PyData → Bool
  | .tuple ds => ds.all ok1 && decide (ds.length ≤ 100000)
  | d => okD d
def A_arb : At := fun ks S Z => ∃ (d : PyData) (m p : Int), ks = [.dat d, .dat (.int m), .dat (.int p)] ∧ ok2 d = true ∧ S = (fun k => k = .dat (.bool (arB m p d))) ∧ Z = noZ
abbrev sp_are_rows (K : PySem.W.Frag) : Sp := SpP K A_arb
def ahB (p k : Int) : PyData → Bool
  | .tuple ds => decide (0 < ds.length) && ds.all (arB k p)
  | _ => false
def ok3 : PyData → Bool
  | .tuple ds => ds.all ok2 && decide (ds.length ≤ 100000)
  | d => okD d
def A_ahb : At := fun ks S Z => ∃ (p k : Int) (d : PyData), ks = [.dat (.int p), .dat (.int k), .dat d] ∧ ok3 d = true ∧ S = (fun x => x = .dat (.bool (ahB p k d))) ∧ Z = noZ
abbrev sp_are_halls (K : PySem.W.Frag) : Sp := SpP K A_ahb
def firstL : List Int := [2, 3, 5, 7, 11, 13, 17, 19, 23, 29, 31, 37, 41]
def sdV (n : Int) : PyData := match firstL.find? (fun p => decide (n % p = 0)) with
  | some p => .int p
  | none => .none
def A_sd : At := fun ks S Z => ∃ n : Int, ks = [.dat (.int n)] ∧ S = (fun x => x = .dat (sdV n)) ∧ Z = noZ
abbrev sp_small_divisor (K : PySem.W.Frag) : Sp := SpP K A_sd
def sp_is_witness (K : PySem.W.Frag) : Sp := fun _ _ _ _ => False
instance {K : PySem.W.Frag} {E : XK} {al : TA} {f : Ct → List Kd → (List Kd → Prop) → Prop} [b : WA K E al f] : WE K E (tCall (sp_is_witness K) [] E0 al) (fun C ρ S => f C ρ fun _ => False) := ⟨fun hK hE h σ H rp Q q => b.ok hK hE h σ H rp _ fun _ _ _ s _ _ => s.elim⟩
instance {K : PySem.W.Frag} {E : XK} : WS K E tNever (fun _ _ _ => False) := ⟨fun _ _ h => h.elim⟩
instance {K : PySem.W.Frag} {E : XK} {x : Str} {ns : List Int} [h : TupC K x ns] : WE K E (tC (.ref (He.ga K x))) (fun _ _ S => S (.dat (.tuple (ns.map .int)))) := ⟨fun hK _ s => by
  subst hK
  exact (e_tupG h.ok).to s⟩
def prB (n : Int) : Bool := firstL.contains n
def A_prn : At := fun ks S Z => ∃ n : Int, ks = [.dat (.int n)] ∧ n ≤ 41 ∧ S = (fun x => x = .dat (.bool (prB n))) ∧ Z = noZ
abbrev sp_is_prime_number (K : PySem.W.Frag) : Sp := SpP K A_prn
abbrev sp_is_prime (K : PySem.W.Frag) : Sp := SpP K A_prn
def A_dpr : At := fun ks S Z => ∃ n : Int, ks = [.dat (.int n)] ∧ n ≤ 41 ∧ prB n = true ∧ S = (fun x => x = .dat .none) ∧ Z = noZ
abbrev sp_demand_prime (K : PySem.W.Frag) : Sp := SpP K A_dpr
def A_df1 : At := fun ks S Z => ∃ n : Int, ks = [.dat (.int n)] ∧ 1 ≤ n ∧ S = (fun x => x = .dat .none) ∧ Z = noZ
abbrev sp_demand_from_one (K : PySem.W.Frag) : Sp := SpP K A_df1

abbrev t_is_integer (K : PySem.W.Frag) : TS := (tRet (tAndV (tCB (rIsi K) (tCons (tVar 0) (tCons (tC (.ty "int")) tNil))) (tNotT K (tCB (rIsi K) (tCons (tVar 0) (tCons (tC (.ty "bool")) tNil))))))
abbrev t_is_number_below (K : PySem.W.Frag) : TS := (tRet (tAndV (tCall (sp_is_integer K) [] E0 (tCons (tVar 0) tNil)) (tChain rLeI rLtI (tC (.int 0)) (tVar 0) (tVar 1))))
abbrev t_is_from_one (K : PySem.W.Frag) : TS := (tRet (tAndV (tCall (sp_is_integer K) [] E0 (tCons (tVar 0) tNil)) (tOp rGeI (tVar 0) (tC (.int 1)))))
abbrev t_are_numbers_below (K : PySem.W.Frag) : TS := (tSeq (tIfS (tOr (tNot (tTru K (tCB (rIsi K) (tCons (tVar 0) (tCons (tC (.ty "tuple")) tNil))))) (tTest (tOp (rNeP K) (tCB (rLenP K) (tCons (tVar 0) tNil)) (tVar 1)))) (tRet (tC (.bl false))) tNext)
  (tRet (tCB (rAll K) (tCons (tLc (iAny K (tVar 0)) (gName 3) tYes (tCall (sp_is_number_below K) [] E0 (tCons (tVar 3) (tCons (tVar 2) tNil))) [3]) tNil))))
abbrev t_are_rows (K : PySem.W.Frag) : TS := (tRet (tAndV (tCB (rIsi K) (tCons (tVar 0) (tCons (tC (.ty "tuple")) tNil))) (tCB (rAll K) (tCons (tLc (iAny K (tVar 0)) (gName 3) tYes (tCall (sp_are_numbers_below K) [] E0 (tCons (tVar 3) (tCons (tVar 1) (tCons (tVar 2) tNil)))) [3]) tNil))))
abbrev t_are_halls (K : PySem.W.Frag) : TS := (tRet (tAndV (tCB (rIsi K) (tCons (tVar 2) (tCons (tC (.ty "tuple")) tNil))) (tAndV (tOp rGtI (tCB (rLenP K) (tCons (tVar 2) tNil)) (tC (.int 0))) (tCB (rAll K) (tCons (tLc (iAny K (tVar 2)) (gName 3) tYes (tCall (sp_are_rows K) [] E0 (tCons (tVar 3) (tCons (tVar 1) (tCons (tVar 0) tNil)))) [3]) tNil)))))
abbrev t_small_divisor (K : PySem.W.Frag) : TS := (tSeq (tFor (iAny K (tC (.ref (He.ga K "FIRST")))) (gName 1) (tIfS (tTest (tOp (rEqP K) (tOp rModI (tVar 0) (tVar 1)) (tC (.int 0)))) (tRet (tVar 1)) tNext))
  (tRet (tC .non)))
abbrev t_is_prime_number (K : PySem.W.Frag) : TS := (tSeq (tIfS (tTest (tOp rLtI (tVar 0) (tC (.int 2)))) (tRet (tC (.bl false))) tNext)
  (tSeq (tAsg (tCall (sp_small_divisor K) [] E0 (tCons (tVar 0) tNil)) (gName 1))
  (tSeq (tIfS (tTest (tOp rNotN (tVar 1) (tC .non))) (tRet (tOp (rEqP K) (tVar 1) (tVar 0))) tNext)
  (tSeq (tFor (iAny K (tC (.ref (He.ga K "FIRST")))) (gName 2) (tSeq (tIfS (tTest (tOp rGtI (tOp (rMulP K) (tVar 2) (tVar 2)) (tVar 0))) (tRet (tC (.bl true))) tNext)
  (tIfS (tTru K (tCall (sp_is_witness K) [] E0 (tCons (tVar 2) (tCons (tVar 0) tNil)))) (tRet (tC (.bl false))) tNext)))
  (tRet (tC (.bl true)))))))
abbrev t_demand_prime (K : PySem.W.Frag) : TS := (tIfS (tOr (tNot (tTru K (tCall (sp_is_integer K) [] E0 (tCons (tVar 0) tNil)))) (tNot (tTru K (tCall (sp_is_prime_number K) [] E0 (tCons (tVar 0) tNil))))) tNever tNext)
abbrev t_demand_from_one (K : PySem.W.Frag) : TS := (tIfS (tNot (tTru K (tCall (sp_is_from_one K) [] E0 (tCons (tVar 0) tNil)))) tNever tNext)
abbrev t_is_prime (K : PySem.W.Frag) : TS := (tRet (tAndV (tCall (sp_is_integer K) [] E0 (tCons (tVar 0) tNil)) (tCall (sp_is_prime_number K) [] E0 (tCons (tVar 0) tNil))))

section
variable {K : PySem.W.Frag} {vs : List V} {H : Hp} {Q : VK} {E : XK}
theorem go_is_integer (h : sp_is_integer K vs H Q E) : t_is_integer K { nx := fun _ H' => Q .non H', rt := Q } (L2.start ["value"] vs) H := by
  refine sp_wp h (fun E => inferInstance) ?_
  rintro C ks S Z hK hfr hZ ⟨d, rfl, ok, rfl, rfl⟩
  cases d with
  | dict _ => cases ok
  | int i => k_updF; k_keys
  | bool i => k_updF; k_keys
  | _ => k_updF; k_keys
theorem go_is_number_below (h : sp_is_number_below K vs H Q E) : t_is_number_below K { nx := fun _ H' => Q .non H', rt := Q } (L2.start ["value", "limit"] vs) H := by
  refine sp_wp h (fun E => inferInstance) ?_
  rintro C ks S Z hK hfr hZ ⟨d, p, rfl, ok, rfl, rfl⟩
  k_updF
  refine gCall_of (A := A_isint) rfl ⟨d, rfl, ok, rfl, rfl⟩ (imp_eq ?_)
  cases d with
  | int i =>
    show gB (.dat (.bool true)) _
    k_updF
    refine ⟨fun h => ?_, fun h => ?_⟩
    · rw [show inB p (.int i) = decide (i < p) by simp only [inB, h, Bool.true_and]]
      k_keys
    · rw [show inB p (.int i) = false by simp only [inB, h, Bool.false_and]]
      k_keys
  | _ => show gB (.dat (.bool false)) _; k_updF; k_keys
theorem go_is_from_one (h : sp_is_from_one K vs H Q E) : t_is_from_one K { nx := fun _ H' => Q .non H', rt := Q } (L2.start ["value"] vs) H := by
  refine sp_wp h (fun E => inferInstance) ?_
  rintro C ks S Z hK hfr hZ ⟨d, rfl, ok, rfl, rfl⟩
  k_updF
  refine gCall_of (A := A_isint) rfl ⟨d, rfl, ok, rfl, rfl⟩ (imp_eq ?_)
  cases d with
  | int i => show gB (.dat (.bool true)) _; k_updF; k_keys
  | _ => show gB (.dat (.bool false)) _; k_updF; k_keys
theorem go_are_numbers_below (h : sp_are_numbers_below K vs H Q E) : t_are_numbers_below K { nx := fun _ H' => Q .non H', rt := Q } (L2.start ["value", "many", "limit", "one"] vs) H := by
  refine sp_wp h (fun E => inferInstance) ?_
  rintro C ks S Z hK hfr hZ ⟨d, m, p, rfl, ok, rfl, rfl⟩
  have big := sl_big
  cases d with
  | dict _ => cases ok
  | tuple ds =>
    simp only [ok1, Bool.and_eq_true, decide_eq_true_eq, List.all_eq_true] at ok
    k_updF
    refine gEq_i ?_
    k_updF
    refine ⟨fun h => ?_, fun h => ?_⟩
    · rw [show anB m p (.tuple ds) = false by simp only [anB]; rw [show decide ((ds.length : Int) = m) = false by simpa using h]; rfl]
      k_keys
    · refine ⟨_, rfl, gLc_map (fun d => .bool (inB p d)) rfl (by omega) (fun ρ S s => s) ?_ ?_⟩
      · intro n a ea
        refine ⟨rfl, fun S s => ?_⟩
        k_updF
        exact gCall_of (A := A_inb) rfl ⟨a, p, rfl, ok.1 a (lof ea), rfl, rfl⟩ (imp_eq s)
      · refine gAll_of (bs := ds.map (inB p)) (by rw [List.map_map]; rfl) ?_
        k_updF
        refine ⟨.inr rfl, ?_⟩
        simp only [anB]
        rw [show decide ((ds.length : Int) = m) = true by simpa using h, List.all_map]
        rfl
  | _ => k_updF; k_keys
theorem go_are_rows (h : sp_are_rows K vs H Q E) : t_are_rows K { nx := fun _ H' => Q .non H', rt := Q } (L2.start ["value", "many", "limit", "one"] vs) H := by
  refine sp_wp h (fun E => inferInstance) ?_
  rintro C ks S Z hK hfr hZ ⟨d, m, p, rfl, ok, rfl, rfl⟩
  have big := sl_big
  cases d with
  | dict _ => cases ok
  | tuple ds =>
    simp only [ok2, Bool.and_eq_true, decide_eq_true_eq, List.all_eq_true] at ok
    k_updF
    refine ⟨_, rfl, gLc_map (fun d => .bool (anB m p d)) rfl (by omega) (fun ρ S s => s) ?_ ?_⟩
    · intro n a ea
      refine ⟨rfl, fun S s => ?_⟩
      k_updF
      exact gCall_of (A := A_anb) rfl ⟨a, m, p, rfl, ok.1 a (lof ea), rfl, rfl⟩ (imp_eq s)
    · refine gAll_of (bs := ds.map (anB m p)) (by rw [List.map_map]; rfl) ?_
      k_updF
      refine ⟨.inr rfl, ?_⟩
      simp only [arB]
      rw [List.all_map]
      rfl
  | _ => k_updF; k_keys
theorem go_are_halls (h : sp_are_halls K vs H Q E) : t_are_halls K { nx := fun _ H' => Q .non H', rt := Q } (L2.start ["p", "k", "value", "rows"] vs) H := by
  refine sp_wp h (fun E => inferInstance) ?_
  rintro C ks S Z hK hfr hZ ⟨p, k, d, rfl, ok, rfl, rfl⟩
  have big := sl_big
  cases d with
  | dict _ => cases ok
  | tuple ds =>
    simp only [ok3, Bool.and_eq_true, decide_eq_true_eq, List.all_eq_true] at ok
    k_updF
    refine ⟨fun h => ?_, fun h => ?_⟩
    · have hl : 0 < ds.length := by simpa using h
      refine ⟨_, rfl, gLc_map (fun d => .bool (arB k p d)) rfl (by omega) (fun ρ S s => s) ?_ ?_⟩
      · intro n a ea
        refine ⟨rfl, fun S s => ?_⟩
        k_updF
        exact gCall_of (A := A_arb) rfl ⟨a, k, p, rfl, ok.1 a (lof ea), rfl, rfl⟩ (imp_eq s)
      · refine gAll_of (bs := ds.map (arB k p)) (by rw [List.map_map]; rfl) ?_
        k_updF
        refine ⟨.inr rfl, ?_⟩
        simp only [ahB, hl]
        rw [List.all_map]
        rfl
    · have hl : ¬ 0 < ds.length := by simpa using h
      simp only [ahB, hl]
      k_keys
  | _ => k_updF; k_keys
theorem go_small_divisor (hT : TupG K "FIRST" firstL) (h : sp_small_divisor K vs H Q E) : t_small_divisor K { nx := fun _ H' => Q .non H', rt := Q } (L2.start ["number", "prime"] vs) H := by
  haveI : TupC K "FIRST" firstL := ⟨hT⟩
  refine sp_wp h (fun E => inferInstance) ?_
  rintro C ks S Z hK hfr hZ ⟨n, rfl, rfl, rfl⟩
  k_updF
  have pos : ∀ p ∈ firstL, 0 < p := by decide
  refine ⟨_, rfl, fun m ρ => ∃ x, ρ = [.dat (.int n), x] ∧ ∀ p ∈ firstL.take m, ¬ n % p = 0, ⟨.un, rfl, fun p hp => by simp at hp⟩, ?_, ?_⟩
  · rintro v d' m a _ ea ⟨x, rfl, no⟩
    rw [List.getElem?_map] at ea
    obtain ⟨p, hp, rfl⟩ := Option.map_eq_some_iff.mp ea
    k_updF
    refine ⟨pos p (lof hp), gEq_i ?_⟩
    k_updF
    refine ⟨fun h => ⟨.inr rfl, ?_⟩, fun h => ⟨_, rfl, ?_⟩⟩
    · have hz : n % p = 0 := by simpa using h
      have e : firstL.find? (fun p => decide (n % p = 0)) = some p := by
        rw [List.find?_eq_some_iff_append]
        refine ⟨by simpa using hz, firstL.take m, firstL.drop (m + 1), ?_, fun q hq => by simpa using no q hq⟩
        have hm := (List.getElem?_eq_some_iff.mp hp)
        obtain ⟨h1, h2⟩ := hm
        rw [← h2, ← List.drop_eq_getElem_cons h1, List.take_append_drop]
      unfold sdV
      rw [e]
    · rw [take_succ_ofI hp]
      intro q hq
      rcases List.mem_append.mp hq with hq | hq
      · exact no q hq
      · rw [List.mem_singleton.mp hq]
        simpa using h
  · rintro _ ⟨x, rfl, no⟩
    k_updF
    rw [List.length_map, List.take_length] at no
    refine ⟨.inr rfl, ?_⟩
    unfold sdV
    rw [List.find?_eq_none.mpr fun q hq => by simpa using no q hq]
theorem sd_small : ∀ n : Int, 2 ≤ n → n ≤ 41 → ∃ p : Int, sdV n = .int p ∧ decide (p = n) = prB n := fun n h1 h2 => by
  have all : ∀ k : Nat, k < 42 → 2 ≤ k → ∃ p ∈ firstL, (firstL.find? fun p => decide ((k : Int) % p = 0)) = some p ∧ decide (p = (k : Int)) = prB k := by decide +kernel
  obtain ⟨p, _, h3, h4⟩ := all n.toNat (by omega) (by omega)
  rw [show ((n.toNat : Nat) : Int) = n by omega] at h3 h4
  refine ⟨p, ?_, h4⟩
  unfold sdV
  rw [h3]
theorem go_is_prime_number (hT : TupG K "FIRST" firstL) (h : sp_is_prime_number K vs H Q E) : t_is_prime_number K { nx := fun _ H' => Q .non H', rt := Q } (L2.start ["number", "divisor", "base"] vs) H := by
  haveI : TupC K "FIRST" firstL := ⟨hT⟩
  refine sp_wp h (fun E => inferInstance) ?_
  rintro C ks S Z hK hfr hZ ⟨n, rfl, hn, rfl, rfl⟩
  k_updF
  refine ⟨fun h => ?_, fun h => ?_⟩
  · have h2 : n < 2 := by simpa using h
    have : prB n = false := by
      unfold prB firstL
      simp only [List.contains_eq_mem, List.mem_cons, List.not_mem_nil, or_false, decide_eq_false_iff_not]
      omega
    rw [this]
    k_keys
  · have h2 : 2 ≤ n := by simpa using h
    refine gCall_of (A := A_sd) rfl ⟨n, rfl, rfl, rfl⟩ (imp_eq ?_)
    obtain ⟨p, e1, e2⟩ := sd_small n h2 hn
    rw [e1]
    k_updF
    refine gEq_i ?_
    k_updF
    rw [e2]
    k_keys
theorem go_is_prime (h : sp_is_prime K vs H Q E) : t_is_prime K { nx := fun _ H' => Q .non H', rt := Q } (L2.start ["value"] vs) H := by
  refine sp_wp h (fun E => inferInstance) ?_
  rintro C ks S Z hK hfr hZ ⟨n, rfl, hn, rfl, rfl⟩
  k_updF
  refine gCall_of (A := A_isint) rfl ⟨_, rfl, rfl, rfl, rfl⟩ (imp_eq ?_)
  show gB (.dat (.bool true)) _
  k_updF
  refine gCall_of (A := A_prn) rfl ⟨n, rfl, hn, rfl, rfl⟩ (imp_eq ?_)
  k_updF
  k_keys
theorem go_demand_prime (h : sp_demand_prime K vs H Q E) : t_demand_prime K { nx := fun _ H' => Q .non H', rt := Q } (L2.start ["p"] vs) H := by
  refine sp_wp h (fun E => inferInstance) ?_
  rintro C ks S Z hK hfr hZ ⟨n, rfl, hn, hp, rfl, rfl⟩
  k_updF
  refine gCall_of (A := A_isint) rfl ⟨_, rfl, rfl, rfl, rfl⟩ (imp_eq ?_)
  show gTr (.dat (.bool true)) _
  k_updF
  refine gCall_of (A := A_prn) rfl ⟨n, rfl, hn, rfl, rfl⟩ (imp_eq ?_)
  rw [hp]
  k_updF
theorem go_demand_from_one (h : sp_demand_from_one K vs H Q E) : t_demand_from_one K { nx := fun _ H' => Q .non H', rt := Q } (L2.start ["value"] vs) H := by
  refine sp_wp h (fun E => inferInstance) ?_
  rintro C ks S Z hK hfr hZ ⟨n, rfl, hn, rfl, rfl⟩
  k_updF
  refine gCall_of (A := A_i1) rfl ⟨_, rfl, rfl, rfl, rfl⟩ (imp_eq ?_)
  rw [show i1B (.int n) = true by simpa [i1B] using hn]
  k_updF
end
end Mh
namespace Mh
open PySem PySem.Spec PyProof.Rows L2 TL
local macro_rules | `(tactic| k_updF) => `(tactic| try simp only [gV_some, gI0_i, gII_i, gAdd_i, gAdd_s, gAdd_t, gAdd_nn, gAdd_on, gAdd_no, gMul_i, gNon_d, gNeg_i, gPart_i, gSl_s, gSl_t, gSl_o, gSl_n, gSl_l, gLen_s, gLen_t, gLen_l, gLen_o, gLen_n, gInt_i, gStr_i, gTupC_n, gTupC_o, gTupC_l, gTupC_t, gII2_i, gB_b, gTr_b, gIf_t, gIf_f, gTx_s, gSplit_s, gRng1_i, gRng2_i, gR1_i, gOwn_o, gItem_d, gItem_n, gAug_i, gInt1_i, gPair_t, gFmt_s, gFmt_i, gJn_s, NxA, RtK, rdK, List.length_cons, List.length_nil, Nat.reduceAdd, Nat.reduceSub, Nat.reduceLT, List.replicate_succ, List.replicate_zero, List.cons_append, List.nil_append, List.append_nil, List.getElem?_cons_zero, List.getElem?_cons_succ, List.set_cons_zero, List.set_cons_succ, true_and, and_true, isNon_n, isNon_i, isNon_b, isNon_s, isNon_t, isNon_l, isNon_d, Bool.not_true, Bool.not_false, id_eq, lcR, notOwn, gIsi_int_none, gIsi_int_bool, gIsi_int_int, gIsi_int_str, gIsi_int_tuple, gIsi_int_list, gIsi_int_own, gIsi_int_new, gIsi_bool_none, gIsi_bool_bool, gIsi_bool_int, gIsi_bool_str, gIsi_bool_tuple, gIsi_bool_list, gIsi_bool_own, gIsi_bool_new, gIsi_tuple_none, gIsi_tuple_bool, gIsi_tuple_int, gIsi_tuple_str, gIsi_tuple_tuple, gIsi_tuple_list, gIsi_tuple_own, gIsi_tuple_new, gIsi_str_none, gIsi_str_bool, gIsi_str_int, gIsi_str_str, gIsi_str_tuple, gIsi_str_list, gIsi_str_own, gIsi_str_new, gIsi_list_none, gIsi_list_bool, gIsi_list_int, gIsi_list_str, gIsi_list_tuple, gIsi_list_list, gIsi_list_own, gIsi_list_new])
local macro_rules | `(tactic| k_keys) => `(tactic| first | exact ⟨.inr rfl, rfl⟩ | exact .inr rfl | rfl | trivial | (refine ⟨.inr ?_, rfl⟩; assumption) | (refine .inr ?_; assumption))

/-! ### books, their lines written -/
structure BkC (K : PySem.W.Frag) : Prop where
  cls : ClsI K (He.ga K "Book")
  np : NoAttr K (He.ga K "Book") "p"
  nk : NoAttr K (He.ga K "Book") "k"
  nh : NoAttr K (He.ga K "Book") "halls"
def rowD (ns : List Int) : PyData := .tuple (ns.map .int)
def rsD (rs : List (List Int)) : PyData := .tuple (rs.map rowD)
def hsD (hs : List (List (List Int))) : PyData := .tuple (hs.map rsD)
abbrev bkN : List Str := ["p", "k", "halls"]
abbrev bkD (K : PySem.W.Frag) (a : Addr) (p k : Int) (hs : List (List (List Int))) : PyData := ObD a (He.ga K "Book") bkN [.int p, .int k, hsD hs]
def nT (i : Int) : Str := ((toString i : String) : Str)
theorem nT_tl {i : Int} (h : 0 ≤ i) : tl (nT i) = numL i.toNat := num_str h
theorem nT_len {i : Int} (h0 : 0 ≤ i) (h1 : i < 10 ^ 40) : (nT i).length ≤ 40 := by
  rw [len_tl, nT_tl h0]
  exact numL_len (k := 40) (by decide) (by omega)
def okN (i : Int) : Prop := 0 ≤ i ∧ i < 10 ^ 40
def rowT (ns : List Int) : Str := Txt.join "," (ns.map nT)
def hallT (rs : List (List Int)) : Str := Txt.join " " (("hall" : Str) :: rs.map rowT)
def headT (p k : Int) : Str := (((((Str.empty ++ ("book" : Str)) ++ (" " : Str)) ++ nT p) ++ (" " : Str)) ++ nT k)
def linesT (p k : Int) (hs : List (List (List Int))) : List Str := headT p k :: hs.map hallT
def bookT (p k : Int) (hs : List (List (List Int))) : Str := Txt.join "\n" (linesT p k hs)
theorem join_len (z : Str) (zs : List Str) : (Txt.join z zs).length ≤ (zs.map (·.length)).sum + zs.length * z.length := by
  cases zs with
  | nil =>
    rw [show Txt.join z [] = Str.join z [] from StrLaws.glued_eq_join z []]
    exact Nat.zero_le _
  | cons a l =>
    rw [show Txt.join z (a :: l) = Str.join z (a :: l) from StrLaws.glued_eq_join z (a :: l), len_join_cons, List.length_cons, Nat.succ_mul]
    omega
theorem sum_le {α : Type} {f : α → Nat} {b : Nat} : ∀ {xs : List α}, (∀ x ∈ xs, f x ≤ b) → (xs.map f).sum ≤ xs.length * b
  | [], _ => Nat.zero_le _
  | x :: xs, h => by
    have h1 := h x List.mem_cons_self
    have h2 := sum_le (xs := xs) fun y hy => h y (List.mem_cons_of_mem _ hy)
    rw [List.map_cons, List.sum_cons, List.length_cons, Nat.succ_mul]
    omega
/-- so long are a row's, a hall's, a book's texts -/
def okR (ns : List Int) : Prop := (∀ i ∈ ns, okN i) ∧ ns.length ≤ 100
def okH (rs : List (List Int)) : Prop := (∀ r ∈ rs, okR r) ∧ rs.length ≤ 100
def okB (hs : List (List (List Int))) : Prop := (∀ r ∈ hs, okH r) ∧ hs.length ≤ 30
theorem l1 : ((",").length : Nat) = 1 := rfl
theorem rowT_len {ns : List Int} (h : okR ns) : (rowT ns).length ≤ 4100 := by
  have h1 := join_len "," (ns.map nT)
  have h2 : ((ns.map nT).map (·.length)).sum ≤ ns.length * 40 := by
    rw [List.map_map]
    exact sum_le fun i hi => nT_len (h.1 i hi).1 (h.1 i hi).2
  rw [List.length_map, show (("," : Str)).length = 1 by decide +kernel] at h1
  have := h.2
  unfold rowT
  omega
theorem hallT_len {rs : List (List Int)} (h : okH rs) : (hallT rs).length ≤ 420000 := by
  have h1 := join_len " " (("hall" : Str) :: rs.map rowT)
  have h2 : ((rs.map rowT).map (·.length)).sum ≤ rs.length * 4100 := by
    rw [List.map_map]
    exact sum_le fun i hi => rowT_len (h.1 i hi)
  rw [List.map_cons, List.sum_cons, List.length_cons, List.length_map, show ((" " : Str)).length = 1 by decide +kernel, show (("hall" : Str)).length = 4 by decide +kernel] at h1
  have := h.2
  unfold hallT
  omega
theorem headT_len {p k : Int} (hp : okN p) (hk : okN k) : (headT p k).length ≤ 100 := by
  have h1 := nT_len hp.1 hp.2
  have h2 := nT_len hk.1 hk.2
  unfold headT
  simp only [str_app_len, show ((" " : Str)).length = 1 by decide +kernel, show (("book" : Str)).length = 4 by decide +kernel, show (Str.empty).length = 0 from rfl]
  omega
def A_dbk (K : PySem.W.Frag) : At := fun ks S Z => ∃ a p k hs, ks = [.dat (bkD K a p k hs)] ∧ S = (fun x => x = .dat .none) ∧ Z = noZ
abbrev sp_demand_book (K : PySem.W.Frag) : Sp := SpP K (A_dbk K)
def A_head (K : PySem.W.Frag) : At := fun ks S Z => ∃ a p k hs, ks = [.dat (bkD K a p k hs)] ∧ okN p ∧ okN k ∧ S = (fun x => x = .dat (.str (headT p k))) ∧ Z = noZ
abbrev sp_head_line (K : PySem.W.Frag) : Sp := SpP K (A_head K)
def A_rw : At := fun ks S Z => ∃ ns, ks = [.dat (rowD ns)] ∧ okR ns ∧ S = (fun x => x = .dat (.str (rowT ns))) ∧ Z = noZ
abbrev sp_row_word (K : PySem.W.Frag) : Sp := SpP K A_rw
def A_hl : At := fun ks S Z => ∃ rs, ks = [.dat (rsD rs)] ∧ okH rs ∧ S = (fun x => x = .dat (.str (hallT rs))) ∧ Z = noZ
abbrev sp_hall_line (K : PySem.W.Frag) : Sp := SpP K A_hl
def A_lb (K : PySem.W.Frag) : At := fun ks S Z => ∃ a p k hs, ks = [.dat (bkD K a p k hs)] ∧ okN p ∧ okN k ∧ okB hs ∧ S = (fun x => x = .new ((linesT p k hs).map .str)) ∧ Z = noZ
abbrev sp_lines_of_book (K : PySem.W.Frag) : Sp := SpP K (A_lb K)
def A_lu (K : PySem.W.Frag) : At := fun ks S Z => ∃ a p k hs, ks = [.dat (bkD K a p k hs)] ∧ S = (fun x => x = .dat (.int (1 + hs.length))) ∧ Z = noZ
abbrev sp_lines_used (K : PySem.W.Frag) : Sp := SpP K (A_lu K)
def A_wb (K : PySem.W.Frag) : At := fun ks S Z => ∃ a p k hs, ks = [.dat (bkD K a p k hs)] ∧ okN p ∧ okN k ∧ okB hs ∧ S = (fun x => x = .dat (.str (bookT p k hs))) ∧ Z = noZ
abbrev sp_write_book (K : PySem.W.Frag) : Sp := SpP K (A_wb K)

abbrev t_demand_book (K : PySem.W.Frag) : TS := (tIfS (tNot (tTru K (tCB (rIsi K) (tCons (tVar 0) (tCons (tC (.ref (He.ga K "Book"))) tNil))))) tNever tNext)
abbrev t_head_line (K : PySem.W.Frag) : TS := (tRet (tJoin [(tFmt (tC (.str "book"))), (tC (.str " ")), (tFmt (tFld K (tVar 0) "p")), (tC (.str " ")), (tFmt (tFld K (tVar 0) "k"))]))
abbrev t_row_word (K : PySem.W.Frag) : TS := (tRet (tM1 (rJoin K) (tC (.str ",")) (tLc (iAny K (tVar 0)) (gName 1) tYes (tCB (rStrP) (tCons (tVar 1) tNil)) [1])))
abbrev t_hall_line (K : PySem.W.Frag) : TS := (tRet (tM1 (rJoin K) (tC (.str " ")) (tOp (rAddP K) (tLst (tCons (tC (.str "hall")) tNil)) (tLc (iAny K (tVar 0)) (gName 1) tYes (tCall (sp_row_word K) [] E0 (tCons (tVar 1) tNil)) [1]))))
abbrev t_lines_of_book (K : PySem.W.Frag) : TS := (tRet (tOp (rAddP K) (tLst (tCons (tCall (sp_head_line K) [] E0 (tCons (tVar 0) tNil)) tNil)) (tLc (iAny K (tFld K (tVar 0) "halls")) (gName 1) tYes (tCall (sp_hall_line K) [] E0 (tCons (tVar 1) tNil)) [1])))
abbrev t_lines_used (K : PySem.W.Frag) : TS := (tRet (tOp (rAddP K) (tC (.int 1)) (tCB (rLenP K) (tCons (tFld K (tVar 0) "halls") tNil))))
abbrev t_write_book (K : PySem.W.Frag) : TS := (tSeq (tDrop (tCall (sp_demand_book K) [] E0 (tCons (tVar 0) tNil)))
  (tRet (tM1 (rJoin K) (tC (.str "\n")) (tCall (sp_lines_of_book K) [] E0 (tCons (tVar 0) tNil)))))

section
variable {K : PySem.W.Frag} {vs : List V} {H : Hp} {Q : VK} {E : XK}
theorem go_demand_book (B : BkC K) (h : sp_demand_book K vs H Q E) : t_demand_book K { nx := fun _ H' => Q .non H', rt := Q } (L2.start ["book"] vs) H := by
  refine sp_wp h (fun E => inferInstance) ?_
  rintro C ks S Z hK hfr hZ ⟨a, p, k, hs, rfl, rfl, rfl⟩
  k_updF
  refine gIsO_t B.cls ?_
  k_updF
theorem go_head_line (B : BkC K) (h : sp_head_line K vs H Q E) : t_head_line K { nx := fun _ H' => Q .non H', rt := Q } (L2.start ["book"] vs) H := by
  refine sp_wp h (fun E => inferInstance) ?_
  rintro C ks S Z hK hfr hZ ⟨a, p, k, hs, rfl, hp, hk, rfl, rfl⟩
  have big := sl_big
  have h1 := nT_len hp.1 hp.2
  have h2 := nT_len hk.1 hk.2
  have s1 : ((" " : Str)).length = 1 := by decide +kernel
  have s4 : (("book" : Str)).length = 4 := by decide +kernel
  have s0 : (Str.empty).length = 0 := rfl
  k_updF
  rw [str_app_len, str_app_len, str_app_len, s1, s4, s0]
  refine ⟨by omega, by omega, by omega, gFld_of ⟨B.cls.cls, B.np⟩ rfl ?_⟩
  k_updF
  refine ⟨log_lt hp.1 hp.2, ?_⟩
  refine ⟨?_, ?_, gFld_of ⟨B.cls.cls, B.nk⟩ rfl ?_⟩
  · show (Str.empty ++ ("book" : Str) ++ (" " : Str) ++ nT p).length ≤ _
    simp only [str_app_len, s1, s4, s0]
    omega
  · show (Str.empty ++ ("book" : Str) ++ (" " : Str) ++ nT p ++ (" " : Str)).length ≤ _
    simp only [str_app_len, s1, s4, s0]
    omega
  · k_updF
    refine ⟨log_lt hk.1 hk.2, ?_, .inr rfl, rfl⟩
    show (Str.empty ++ ("book" : Str) ++ (" " : Str) ++ nT p ++ (" " : Str) ++ nT k).length ≤ _
    simp only [str_app_len, s1, s4, s0]
    omega
def intS : PyData → Str
  | .int i => nT i
  | _ => ⟨#[]⟩
theorem go_row_word (h : sp_row_word K vs H Q E) : t_row_word K { nx := fun _ H' => Q .non H', rt := Q } (L2.start ["row", "number"] vs) H := by
  refine sp_wp h (fun E => inferInstance) ?_
  rintro C ks S Z hK hfr hZ ⟨ns, rfl, hn, rfl, rfl⟩
  have big := sl_big
  have hl := hn.2
  k_updF
  refine ⟨_, rfl, gLc_map (fun d => .str (intS d)) rfl (by rw [List.length_map]; omega) (fun ρ S s => s) ?_ ?_⟩
  · intro n a ea
    rw [List.getElem?_map] at ea
    obtain ⟨i, hi, rfl⟩ := Option.map_eq_some_iff.mp ea
    refine ⟨rfl, fun S s => ?_⟩
    have hb := hn.1 i (lof hi)
    k_updF
    exact ⟨log_lt hb.1 hb.2, s⟩
  · refine gJoin_of (zs := ns.map nT) (by rw [List.map_map, List.map_map]; rfl) ?_ ?_
    · have h2 : ((ns.map nT).map (·.length)).sum ≤ ns.length * 40 := by
        rw [List.map_map]
        exact sum_le fun i hi => nT_len (hn.1 i hi).1 (hn.1 i hi).2
      rw [List.length_map, show (("," : Str)).length = 1 by decide +kernel]
      omega
    · k_updF
      exact ⟨.inr rfl, rfl⟩
def rsL : PyData → List Int
  | .tuple ds => ds.map fun | .int i => i | _ => 0
  | _ => []
theorem rsL_row (ns : List Int) : rsL (rowD ns) = ns := by
  simp only [rsL, rowD, List.map_map]
  conv => rhs; rw [← List.map_id ns]
  exact List.map_congr_left fun r _ => rfl
theorem go_hall_line (h : sp_hall_line K vs H Q E) : t_hall_line K { nx := fun _ H' => Q .non H', rt := Q } (L2.start ["rows", "row"] vs) H := by
  refine sp_wp h (fun E => inferInstance) ?_
  rintro C ks S Z hK hfr hZ ⟨rs, rfl, hn, rfl, rfl⟩
  have big := sl_big
  have hl := hn.2
  k_updF
  refine gLstK_of (ds := [.str "hall"]) rfl (by show 1 ≤ _; omega) ⟨_, rfl, gLc_map (fun d => .str (rowT (rsL d))) rfl (by rw [List.length_map]; omega) (fun ρ S s => s) ?_ ?_⟩
  · intro n a ea
    rw [List.getElem?_map] at ea
    obtain ⟨i, hi, rfl⟩ := Option.map_eq_some_iff.mp ea
    refine ⟨rfl, fun S s => ?_⟩
    rw [rsL_row] at s
    k_updF
    exact gCall_of (A := A_rw) rfl ⟨i, rfl, hn.1 i (lof hi), rfl, rfl⟩ (imp_eq s)
  · k_updF
    rw [List.map_map]
    have e : ([PyData.str "hall"] ++ rs.map ((fun d => PyData.str (rowT (rsL d))) ∘ rowD)) = (("hall" : Str) :: rs.map rowT).map .str := by
      rw [List.map_cons, List.map_map]
      exact congrArg (PyData.str "hall" :: ·) (List.map_congr_left fun r _ => by show PyData.str (rowT (rsL (rowD r))) = _; rw [rsL_row]; rfl)
    have e2 : (PyData.str "hall" :: rs.map ((fun d => PyData.str (rowT (rsL d))) ∘ rowD)) = (("hall" : Str) :: rs.map rowT).map .str := e
    rw [e2]
    refine ⟨by rw [List.length_map]; omega, gJoin_of (zs := ("hall" : Str) :: rs.map rowT) rfl ?_ ?_⟩
    · have h2 : ((rs.map rowT).map (·.length)).sum ≤ rs.length * 4100 := by
        rw [List.map_map]
        exact sum_le fun i hi => rowT_len (hn.1 i hi)
      rw [List.map_cons, List.sum_cons, List.length_cons, List.length_map, show ((" " : Str)).length = 1 by decide +kernel, show (("hall" : Str)).length = 4 by decide +kernel]
      omega
    · k_updF
      exact ⟨.inr rfl, rfl⟩
def hsL : PyData → List (List Int)
  | .tuple ds => ds.map rsL
  | _ => []
theorem hsL_rs (rs : List (List Int)) : hsL (rsD rs) = rs := by
  simp only [hsL, rsD, List.map_map]
  conv => rhs; rw [← List.map_id rs]
  exact List.map_congr_left fun r _ => rsL_row r
theorem nl_strs (zs : List Str) : nlL (zs.map .str) = true := by
  unfold nlL
  induction zs with
  | nil => rfl
  | cons a r ih => simp only [List.map_cons, nl.nlAll, nl, Bool.true_and]; exact ih
theorem go_lines_of_book (B : BkC K) (h : sp_lines_of_book K vs H Q E) : t_lines_of_book K { nx := fun _ H' => Q .non H', rt := Q } (L2.start ["book", "rows"] vs) H := by
  refine sp_wp h (fun E => inferInstance) ?_
  rintro C ks S Z hK hfr hZ ⟨a, p, k, hs, rfl, hp, hk, hb, rfl, rfl⟩
  have big := sl_big
  have hl := hb.2
  k_updF
  refine gCall_of (A := A_head K) rfl ⟨a, p, k, hs, rfl, hp, hk, rfl, rfl⟩ (imp_eq ?_)
  refine gLstK_of (ds := [.str (headT p k)]) rfl (by show 1 ≤ _; omega) (gFld_of ⟨B.cls.cls, B.nh⟩ rfl ⟨_, rfl, gLc_map (fun d => .str (hallT (hsL d))) rfl (by rw [List.length_map]; omega) (fun ρ S s => s) ?_ ?_⟩)
  · intro n a ea
    rw [List.getElem?_map] at ea
    obtain ⟨i, hi, rfl⟩ := Option.map_eq_some_iff.mp ea
    refine ⟨rfl, fun S s => ?_⟩
    rw [hsL_rs] at s
    k_updF
    exact gCall_of (A := A_hl) rfl ⟨i, rfl, hb.1 i (lof hi), rfl, rfl⟩ (imp_eq s)
  · rw [List.map_map]
    have e : ([PyData.str (headT p k)] ++ hs.map ((fun d => PyData.str (hallT (hsL d))) ∘ rsD)) = (linesT p k hs).map .str := by
      unfold linesT
      rw [List.map_cons, List.map_map]
      exact congrArg (PyData.str (headT p k) :: ·) (List.map_congr_left fun r _ => by show PyData.str (hallT (hsL (rsD r))) = _; rw [hsL_rs]; rfl)
    refine gAdd_nn.mpr ⟨by rw [List.length_map]; show 1 + _ ≤ _; omega, ?_⟩
    rw [e]
    exact ⟨.inr (nl_strs _), rfl⟩
theorem go_lines_used (B : BkC K) (h : sp_lines_used K vs H Q E) : t_lines_used K { nx := fun _ H' => Q .non H', rt := Q } (L2.start ["book"] vs) H := by
  refine sp_wp h (fun E => inferInstance) ?_
  rintro C ks S Z hK hfr hZ ⟨a, p, k, hs, rfl, rfl, rfl⟩
  k_updF
  refine gFld_of ⟨B.cls.cls, B.nh⟩ rfl ?_
  refine gLen_of (ds := hs.map rsD) rfl ?_
  k_updF
  rw [List.length_map]
  exact ⟨.inr rfl, rfl⟩
theorem lines_lens {p k : Int} {hs : List (List (List Int))} (hp : okN p) (hk : okN k) (hb : okB hs) : ((linesT p k hs).map (·.length)).sum + (linesT p k hs).length * 1 ≤ 13000000 := by
  have h1 := headT_len hp hk
  have h2 : ((hs.map hallT).map (·.length)).sum ≤ hs.length * 420000 := by
    rw [List.map_map]
    exact sum_le fun i hi => hallT_len (hb.1 i hi)
  have hl := hb.2
  unfold linesT
  rw [List.map_cons, List.sum_cons, List.length_cons, List.length_map]
  omega
theorem go_write_book (B : BkC K) (h : sp_write_book K vs H Q E) : t_write_book K { nx := fun _ H' => Q .non H', rt := Q } (L2.start ["book"] vs) H := by
  refine sp_wp h (fun E => inferInstance) ?_
  rintro C ks S Z hK hfr hZ ⟨a, p, k, hs, rfl, hp, hk, hb, rfl, rfl⟩
  k_updF
  refine gCall_of (A := A_dbk K) rfl ⟨a, p, k, hs, rfl, rfl, rfl⟩ (imp_eq ?_)
  k_updF
  refine gCall_of (A := A_lb K) rfl ⟨a, p, k, hs, rfl, hp, hk, hb, rfl, rfl⟩ (imp_eq ?_)
  refine gJoin_of (zs := linesT p k hs) rfl ?_ ?_
  · rw [show (("\n" : Str)).length = 1 by decide +kernel]
    have := lines_lens hp hk hb
    omega
  · k_updF
    exact ⟨.inr rfl, rfl⟩
end
end Mh
namespace Mh
open PySem PySem.Spec PyProof.Rows L2 TL
local macro_rules | `(tactic| k_updF) => `(tactic| try simp only [gV_some, gI0_i, gII_i, gAdd_i, gAdd_s, gAdd_t, gAdd_nn, gAdd_on, gAdd_no, gMul_i, gNon_d, gNeg_i, gPart_i, gSl_s, gSl_t, gSl_o, gSl_n, gSl_l, gLen_s, gLen_t, gLen_l, gLen_o, gLen_n, gInt_i, gStr_i, gTupC_n, gTupC_o, gTupC_l, gTupC_t, gII2_i, gB_b, gTr_b, gIf_t, gIf_f, gTx_s, gSplit_s, gRng1_i, gRng2_i, gR1_i, gOwn_o, gItem_d, gItem_n, gAug_i, gInt1_i, gPair_t, gFmt_s, gFmt_i, gJn_s, NxA, RtK, rdK, List.length_cons, List.length_nil, Nat.reduceAdd, Nat.reduceSub, Nat.reduceLT, List.replicate_succ, List.replicate_zero, List.cons_append, List.nil_append, List.append_nil, List.getElem?_cons_zero, List.getElem?_cons_succ, List.set_cons_zero, List.set_cons_succ, true_and, and_true, isNon_n, isNon_i, isNon_b, isNon_s, isNon_t, isNon_l, isNon_d, Bool.not_true, Bool.not_false, id_eq, lcR, notOwn, gIsi_int_none, gIsi_int_bool, gIsi_int_int, gIsi_int_str, gIsi_int_tuple, gIsi_int_list, gIsi_int_own, gIsi_int_new, gIsi_bool_none, gIsi_bool_bool, gIsi_bool_int, gIsi_bool_str, gIsi_bool_tuple, gIsi_bool_list, gIsi_bool_own, gIsi_bool_new, gIsi_tuple_none, gIsi_tuple_bool, gIsi_tuple_int, gIsi_tuple_str, gIsi_tuple_tuple, gIsi_tuple_list, gIsi_tuple_own, gIsi_tuple_new, gIsi_str_none, gIsi_str_bool, gIsi_str_int, gIsi_str_str, gIsi_str_tuple, gIsi_str_list, gIsi_str_own, gIsi_str_new, gIsi_list_none, gIsi_list_bool, gIsi_list_int, gIsi_list_str, gIsi_list_tuple, gIsi_list_list, gIsi_list_own, gIsi_list_new])
local macro_rules | `(tactic| k_keys) => `(tactic| first | exact ⟨.inr rfl, rfl⟩ | exact .inr rfl | rfl | trivial | (refine ⟨.inr ?_, rfl⟩; assumption) | (refine .inr ?_; assumption))

/-! ### Book(..) made -/
mutual
/-- no list, no instance -/
def tp : PyData → Bool
  | .none => true
  | .bool _ => true
  | .int _ => true
  | .str _ => true
  | .list _ => false
  | .tuple xs => tpAll xs
  | .dict _ => false
def tpAll : List PyData → Bool
  | [] => true
  | x :: xs => tp x && tpAll xs
end
mutual
theorem Dp.tp {K : PySem.W.Frag} {H H' : Hp} (e : ∀ a xs, Rd H a (.tup xs) → Rd H' a (.tup xs)) : ∀ {v : V} {d : PyData}, Mh.tp d = true → Dp K H v d → Dp K H' v d
  | _, _, _, .non => .non
  | _, _, _, .bl b => .bl b
  | _, _, _, .int i => .int i
  | _, _, _, .str x => .str x
  | _, _, n, .lst h a => by simp [Mh.tp] at n
  | _, _, n, .tup h a => .tup (h.imp (e _ _) id) (DpAll.tp e (by simpa [Mh.tp] using n) a)
  | _, _, n, .ins h a => by simp [Mh.tp] at n
  | _, _, n, .atm => by simp [Mh.tp] at n
theorem DpAll.tp {K : PySem.W.Frag} {H H' : Hp} (e : ∀ a xs, Rd H a (.tup xs) → Rd H' a (.tup xs)) : ∀ {vs : List V} {ds : List PyData}, Mh.tpAll ds = true → DpAll K H vs ds → DpAll K H' vs ds
  | _, _, _, .nil => .nil
  | _, _, n, .cons h a => by
    simp only [Mh.tpAll, Bool.and_eq_true] at n
    exact .cons (Dp.tp e n.1 h) (DpAll.tp e n.2 a)
end
theorem tp_t {ds : List PyData} (h : ∀ d ∈ ds, tp d = true) : tp (.tuple ds) = true := by
  simp only [tp]
  induction ds with
  | nil => rfl
  | cons a r ih =>
    simp only [tpAll, h a List.mem_cons_self, Bool.true_and]
    exact ih fun d hd => h d (List.mem_cons_of_mem _ hd)
theorem hsD_tp (hs : List (List (List Int))) : tp (hsD hs) = true := tp_t fun d hd => by
  obtain ⟨rs, _, rfl⟩ := List.mem_map.mp hd
  exact tp_t fun d hd => by
    obtain ⟨ns, _, rfl⟩ := List.mem_map.mp hd
    exact tp_t fun d hd => by
      obtain ⟨i, _, rfl⟩ := List.mem_map.mp hd
      rfl
theorem hsD_nl (hs : List (List (List Int))) : nl (hsD hs) = true := nl_t fun d hd => by
  obtain ⟨rs, _, rfl⟩ := List.mem_map.mp hd
  exact nl_t fun d hd => by
    obtain ⟨ns, _, rfl⟩ := List.mem_map.mp hd
    exact nl_t fun d hd => by
      obtain ⟨i, _, rfl⟩ := List.mem_map.mp hd
      rfl
/-- what makes a book -/
def bkOk (p k : Int) (hs : List (List (List Int))) : Prop := p ≤ 41 ∧ prB p = true ∧ 1 ≤ k ∧ ok3 (hsD hs) = true ∧ ahB p k (hsD hs) = true
def sp_Book___init (K : PySem.W.Frag) : Sp := fun vs H Q E => ∃ x dx p k hs vh, vs = [V.ref x, .int p, .int k, vh] ∧ H x = some (.ins (He.ga K "Book") dx []) ∧ Dp K H vh (hsD hs) ∧ bkOk p k hs ∧
  ∀ H' vh', (∀ a o, H a = some o → a ≠ x → H' a = some o) → H' x = some (.ins (He.ga K "Book") dx [("p", .int p), ("k", .int k), ("halls", vh')]) → Dp K (del x (fsh H noF H')) vh' (hsD hs) → Q .non H'
abbrev t_initA (K : PySem.W.Frag) : TS := tSeq (tDrop (tCall (sp_demand_prime K) [] E0 (tCons (tVar 1) tNil))) (tSeq (tDrop (tCall (sp_demand_from_one K) [] E0 (tCons (tVar 2) tNil)))
  (tIfS (tNot (tTru K (tCall (sp_are_halls K) [] E0 (tCons (tVar 1) (tCons (tVar 2) (tCons (tVar 3) tNil)))))) tNever tNext))
def t_Book___init (K : PySem.W.Frag) : TS := tSeq (tDrop (tCall (sp_demand_prime K) [] E0 (tCons (tVar 1) tNil))) (tSeq (tDrop (tCall (sp_demand_from_one K) [] E0 (tCons (tVar 2) tNil)))
  (tSeq (tIfS (tNot (tTru K (tCall (sp_are_halls K) [] E0 (tCons (tVar 1) (tCons (tVar 2) (tCons (tVar 3) tNil)))))) tNever tNext)
  (tSeq (sFld K (tVar 0) (tVar 1) "p") (tSeq (sFld K (tVar 0) (tVar 2) "k") (sFld K (tVar 0) (tVar 3) "halls")))))
section
variable {K : PySem.W.Frag} {vs : List V} {H : Hp} {Q : VK} {E : XK}
theorem go_Book___init (B : BkC K) (h : sp_Book___init K vs H Q E) : t_Book___init K { nx := fun _ H' => Q .non H', rt := Q } (L2.start ["self", "p", "k", "halls"] vs) H := by
  obtain ⟨x, dx, p, k, hs, vh, rfl, hx, dh, ok, fin⟩ := h
  obtain ⟨o1, o2, o3, o4, o5⟩ := ok
  let C : Ct := ⟨K, noF, noJ, H, false, [], E, noZ⟩
  have Cok : C.Ok := ⟨fun _ _ _ _ => trivial, fun _ _ _ f => f.elim, trivial, fun _ _ _ _ _ z => z.elim⟩
  have c4 : ∀ {i : Nat} {kk : Kd}, [bx x, Kd.dat (.int p), .dat (.int k), .dat (hsD hs)][i]? = some kk → (i = 0 ∧ kk = bx x) ∨ (i = 1 ∧ kk = .dat (.int p)) ∨ (i = 2 ∧ kk = .dat (.int k)) ∨ (i = 3 ∧ kk = .dat (hsD hs)) := fun {i kk} e => by
    match i with
    | 0 => cases e; exact .inl ⟨rfl, rfl⟩
    | 1 => cases e; exact .inr (.inl ⟨rfl, rfl⟩)
    | 2 => cases e; exact .inr (.inr (.inl ⟨rfl, rfl⟩))
    | 3 => cases e; exact .inr (.inr (.inr ⟨rfl, rfl⟩))
    | i + 4 => simp at e
  have noO : ∀ a, ¬ Own [bx x, Kd.dat (.int p), .dat (.int k), .dat (hsD hs)] a := fun a ⟨i, ds, e⟩ => by
    rcases c4 e with ⟨_, h⟩ | ⟨_, h⟩ | ⟨_, h⟩ | ⟨_, h⟩ <;> cases h
  have mk : Ext H (msk C [bx x, Kd.dat (.int p), .dat (.int k), .dat (hsD hs)] H) := fun a o e => msk_mk e (noO a) id fun z => by cases z.1
  have rep : Rep C [some (.ref x), some (.int p), some (.int k), some vh] H [bx x, .dat (.int p), .dat (.int k), .dat (hsD hs)] := by
    refine ⟨Cok, trivial, fun a o e _ => e, rfl, fun i j l ds es e => (noO l ⟨i, ds, e⟩).elim, fun l o => (noO l o).elim, fun i kk e => ?_, fun p hp => by cases hp⟩
    rcases c4 e with ⟨rfl, rfl⟩ | ⟨rfl, rfl⟩ | ⟨rfl, rfl⟩ | ⟨rfl, rfl⟩
    · exact ⟨_, rfl, rfl⟩
    · exact ⟨_, rfl, .int _⟩
    · exact ⟨_, rfl, .int _⟩
    · exact ⟨_, rfl, Dp.ex mk dh⟩
  have pre : BS C (t_initA K) [bx x, .dat (.int p), .dat (.int k), .dat (hsD hs)] { nx := fun r => r = [bx x, .dat (.int p), .dat (.int k), .dat (hsD hs)] } := by
    refine WS.ok (K := K) (E := E) rfl rfl ?_
    k_updF
    refine gCall_of (A := A_dpr) rfl ⟨p, rfl, o1, o2, rfl, rfl⟩ (imp_eq ?_)
    refine gCall_of (A := A_df1) rfl ⟨k, rfl, o3, rfl, rfl⟩ (imp_eq ?_)
    refine gCall_of (A := A_ahb) (ks' := [.dat (.int p), .dat (.int k), .dat (hsD hs)]) rfl ⟨p, k, _, rfl, o4, rfl, rfl⟩ (imp_eq ?_)
    rw [o5]
    k_updF
  have e0 : L2.start ["self", "p", "k", "halls"] [V.ref x, .int p, .int k, vh] = [some (.ref x), some (.int p), some (.int k), some vh] := rfl
  rw [e0]
  have step : ∀ σ' H', Rep C σ' H' [bx x, .dat (.int p), .dat (.int k), .dat (hsD hs)] → (tSeq (sFld K (tVar 0) (tVar 1) "p") (tSeq (sFld K (tVar 0) (tVar 2) "k") (sFld K (tVar 0) (tVar 3) "halls"))) { nx := fun _ H' => Q .non H', rt := Q } σ' H' := by
    intro σ' H' r
    obtain ⟨v0, e0, h0⟩ := r.var (i := 0) rfl rfl
    obtain ⟨v1, e1, h1⟩ := r.var (i := 1) rfl rfl
    obtain ⟨v2, e2, h2⟩ := r.var (i := 2) rfl rfl
    obtain ⟨v3, e3, h3⟩ := r.var (i := 3) rfl rfl
    obtain rfl : v0 = .ref x := h0
    obtain rfl := dp_int h1
    obtain rfl := dp_int h2
    have hx' : H' x = some (.ins (He.ga K "Book") dx []) := r.old x _ hx id
    refine ⟨_, e1, _, e0, x, _, dx, _, rfl, hx', B.cls.cls, B.np, by decide, ?_⟩
    refine ⟨_, e2, _, e0, x, _, dx, _, rfl, upd_same, B.cls.cls, B.nk, by show 1 < 1000; decide, ?_⟩
    refine ⟨_, e3, _, e0, x, _, dx, _, rfl, upd_same, B.cls.cls, B.nh, by show 2 < 1000; decide, ?_⟩
    show Q .non (upd (upd (upd H' x _) x _) x _)
    rw [upd_upd, upd_upd]
    have fd := fsh_dp r (.inr (hsD_nl hs)) h3
    refine fin _ v3 (fun a o ho ne => ?_) ?_ (Dp.tp (fun a xs q => ?_) (hsD_tp hs) fd)
    · rw [upd_ne ne]
      exact r.old a o ho id
    · rw [upd_same]
      rfl
    · have key : ∀ o, fsh H noF H' a = some o → (∀ D dx fs, o ≠ .ins D dx fs) → del x (fsh H noF (upd H' x (.ins (He.ga K "Book") dx (putF "halls" v3 (putF "k" (.int k) (putF "p" (.int p) [])))))) a = some o := fun o ho hne => by
        obtain ⟨g1, g2, g3⟩ := fsh_of ho
        have na : a ≠ x := fun e => by
          rw [e, hx'] at g1
          exact hne _ _ _ (Option.some.inj g1).symm
        have g4 : upd H' x (.ins (He.ga K "Book") dx (putF "halls" v3 (putF "k" (.int k) (putF "p" (.int p) [])))) a = some o := by rw [upd_ne na]; exact g1
        exact del_mk (fsh_mk g4 g2 (by rw [g4, ← g1]; exact g3)) na
      rcases q with q | ⟨ob, q⟩
      · exact .inl (key _ q fun _ _ _ e => by cases e)
      · exact .inr ⟨ob, key _ q fun _ _ _ e => by cases e⟩
  exact pre _ _ rep ⟨fun σ' H' => (tSeq (sFld K (tVar 0) (tVar 1) "p") (tSeq (sFld K (tVar 0) (tVar 2) "k") (sFld K (tVar 0) (tVar 3) "halls"))) { nx := fun _ H' => Q .non H', rt := Q } σ' H', Q, fun _ _ => False, fun _ _ => False⟩ ⟨fun ρ σ H' z r => by subst z; exact step _ _ r, fun _ _ _ z => z.elim, fun _ _ _ z => z.elim, fun _ _ _ z => z.elim⟩
end
/-- Book(p, k, halls) -/
instance {K : PySem.W.Frag} {E : XK} {al : TA} {f : Ct → List Kd → (List Kd → Prop) → Prop} [b : WA K E al f] : WE K E (tMake (He.ga K "Book") (sp_Book___init K) [] E0 al) (fun C ρ S => f C ρ fun ks => ∃ p k hs, ks = [.dat (.int p), .dat (.int k), .dat (hsD hs)] ∧ bkOk p k hs ∧ ∀ a, S (.dat (bkD K a p k hs))) := ⟨fun {C ρ S} hK hE h σ H rp Q q => by
  subst hK
  refine b.ok rfl hE h σ H rp _ fun ks vs H1 s1 r1 o1 x dx hx hdx ne => ?_
  obtain ⟨p, k, hs, rfl, ok, s⟩ := s1
  match vs, o1 with
  | [v1, v2, v3], .cons g1 (.cons g2 (.cons g3 .nil)) =>
    obtain rfl := dp_int g1
    obtain rfl := dp_int g2
    have rp1 := rp.up r1
    have ra : R C H1 (upd H1 dx (.own x)) := R.new rp.ok r1.1 hdx
    have rpa := rp1.up ra
    have hxa : upd H1 dx (.own x) x = none := by rw [upd_ne (Ne.symm ne)]; exact hx
    have rb : R C (upd H1 dx (.own x)) (upd (upd H1 dx (.own x)) x (.ins (He.ga C.K "Book") dx [])) := R.new rp.ok ra.1 hxa
    have g3' : Dp C.K (msk C ρ (upd (upd H1 dx (.own x)) x (.ins (He.ga C.K "Book") dx []))) v3 (hsD hs) := Dp.ex (msk_up rb) (Dp.ex (msk_up ra) g3)
    refine ⟨x, dx, p, k, hs, v3, rfl, upd_same, Dp.ex msk_le g3', ok, fun H' vh' kp hx' dh => ⟨rfl, ?_⟩⟩
    have kp2 : ∀ a o, upd H1 dx (.own x) a = some o → H' a = some o := fun a o e => by
      have na : a ≠ x := fun z => by rw [z, hxa] at e; cases e
      exact kp a o (by rw [upd_ne na]; exact e) na
    have ro : ROk ⟨C.K, noF, noJ, upd H1 dx (.own x), false, [], E0, noZ⟩ vh' H' (.dat (hsD hs)) := ⟨⟨trivial, fun a o e _ => kp2 a o e⟩, Dp.ex (fun a o e => by
      obtain ⟨e1, na⟩ := del_of e
      obtain ⟨h1, h2, h3⟩ := fsh_of e1
      refine fsh_mk h1 h2 fun z => h3 ⟨?_, z.2⟩
      rw [upd_ne na]
      exact z.1) dh⟩
    obtain ⟨rc, oc⟩ := call_back rpa (.inr ⟨rfl, rfl⟩) ro
    have rall := (r1.trans ra).trans rc
    refine q _ _ H' (s x) rall ?_
    have hm : msk C ρ H' x = some (.ins (He.ga C.K "Book") dx [("p", .int p), ("k", .int k), ("halls", vh')]) := msk_mk hx' (fun ⟨i, es, e⟩ => by
        obtain ⟨vs', w1, _⟩ := rp1.own_at e
        rw [hx] at w1
        cases w1) (fun f => rp.ok.al r1.1 f hx) fun z => by
          have z2 := z.2.2
          rw [hx'] at z2
          exact z2
    exact .ins (fs := [("p", .int p), ("k", .int k), ("halls", vh')]) hm (.cons (.int _) (.cons (.int _) (.cons oc .nil)))⟩
end Mh
namespace Mh
open PySem PySem.Spec PyProof.Rows L2 TL
local macro_rules | `(tactic| k_updF) => `(tactic| try simp only [gV_some, gI0_i, gII_i, gAdd_i, gAdd_s, gAdd_t, gAdd_nn, gAdd_on, gAdd_no, gMul_i, gNon_d, gNeg_i, gPart_i, gSl_s, gSl_t, gSl_o, gSl_n, gSl_l, gLen_s, gLen_t, gLen_l, gLen_o, gLen_n, gInt_i, gStr_i, gTupC_n, gTupC_o, gTupC_l, gTupC_t, gII2_i, gB_b, gTr_b, gIf_t, gIf_f, gTx_s, gSplit_s, gRng1_i, gRng2_i, gR1_i, gOwn_o, gItem_d, gItem_n, gAug_i, gInt1_i, gPair_t, gFmt_s, gFmt_i, gJn_s, NxA, RtK, rdK, List.length_cons, List.length_nil, Nat.reduceAdd, Nat.reduceSub, Nat.reduceLT, List.replicate_succ, List.replicate_zero, List.cons_append, List.nil_append, List.append_nil, List.getElem?_cons_zero, List.getElem?_cons_succ, List.set_cons_zero, List.set_cons_succ, true_and, and_true, isNon_n, isNon_i, isNon_b, isNon_s, isNon_t, isNon_l, isNon_d, Bool.not_true, Bool.not_false, id_eq, lcR, notOwn, gIsi_int_none, gIsi_int_bool, gIsi_int_int, gIsi_int_str, gIsi_int_tuple, gIsi_int_list, gIsi_int_own, gIsi_int_new, gIsi_bool_none, gIsi_bool_bool, gIsi_bool_int, gIsi_bool_str, gIsi_bool_tuple, gIsi_bool_list, gIsi_bool_own, gIsi_bool_new, gIsi_tuple_none, gIsi_tuple_bool, gIsi_tuple_int, gIsi_tuple_str, gIsi_tuple_tuple, gIsi_tuple_list, gIsi_tuple_own, gIsi_tuple_new, gIsi_str_none, gIsi_str_bool, gIsi_str_int, gIsi_str_str, gIsi_str_tuple, gIsi_str_list, gIsi_str_own, gIsi_str_new, gIsi_list_none, gIsi_list_bool, gIsi_list_int, gIsi_list_str, gIsi_list_tuple, gIsi_list_list, gIsi_list_own, gIsi_list_new])
local macro_rules | `(tactic| k_keys) => `(tactic| first | exact ⟨.inr rfl, rfl⟩ | exact .inr rfl | rfl | trivial | (refine ⟨.inr ?_, rfl⟩; assumption) | (refine .inr ?_; assumption))

/-! ### books read -/
abbrev spS (z : Str) : List Str := Txt.split z " "
def hdV (z : Str) : PyData := match spS z with
  | [a, b, c] => if a = "book" then (match nwV b, n1V c with
    | .int p, .int k => if prB p then .tuple [.int p, .int k] else .none
    | _, _ => .none) else .none
  | _ => .none
def HkP (z : Str) : Prop := ∀ a b c, spS z = [a, b, c] → a = "book" → ∀ n : Int, nwV b = .int n → n ≤ 41
def A_hr : At := fun ks S Z => ∃ z : Str, ks = [.dat (.str z)] ∧ z.length ≤ 640 ∧ HkP z ∧ S = (fun x => x = .dat (hdV z)) ∧ Z = noZ
abbrev sp_head_read (K : PySem.W.Frag) : Sp := SpP K A_hr
def rwV (p k : Int) (w : Str) : PyData := nbsV (Txt.split w ",") k p
def A_rr : At := fun ks S Z => ∃ (p k : Int) (w : Str), ks = [.dat (.int p), .dat (.int k), .dat (.str w)] ∧ w.length ≤ 640 ∧ S = (fun x => x = .dat (rwV p k w)) ∧ Z = noZ
abbrev sp_row_read (K : PySem.W.Frag) : Sp := SpP K A_rr
def rrV (p k : Int) (z : Str) : PyData := match spS z with
  | a :: ws => if a = "hall" then (if (ws.map (rwV p k)).any isNon then .none else .tuple (ws.map (rwV p k))) else .none
  | [] => .none
def A_rrs : At := fun ks S Z => ∃ (p k : Int) (z : Str), ks = [.dat (.int p), .dat (.int k), .dat (.str z)] ∧ z.length ≤ 640 ∧ S = (fun x => x = .dat (rrV p k z)) ∧ Z = noZ
abbrev sp_rows_read (K : PySem.W.Frag) : Sp := SpP K A_rrs
def hrV (p k : Int) (ls : List Str) : List PyData := (ls.map (rrV p k)).takeWhile fun d => !isNon d
def A_hsr : At := fun ks S Z => ∃ (p k : Int) (ls : List Str), ks = [.dat (.int p), .dat (.int k), .dat (.list (ls.map .str))] ∧ (∀ z ∈ ls, z.length ≤ 640) ∧ ls.length ≤ 10000 ∧ S = (fun x => x = .dat (.tuple (hrV p k ls))) ∧ Z = noZ
abbrev sp_halls_read (K : PySem.W.Frag) : Sp := SpP K A_hsr

abbrev t_head_read (K : PySem.W.Frag) : TS := (tSeq (tAsg (tM1 rSplit (tVar 0) (tC (.str " "))) (gName 1))
  (tSeq (tIfS (tOr (tTest (tOp (rNeP K) (tCB (rLenP K) (tCons (tVar 1) tNil)) (tC (.int 3)))) (tTest (tOp (rNeP K) (tOp (rIx K) (tVar 1) (tC (.int 0))) (tC (.str "book"))))) (tRet (tC .non)) tNext)
  (tSeq (tAsg (tCall (sp_any_number K) [] E0 (tCons (tOp (rIx K) (tVar 1) (tC (.int 1))) tNil)) (gName 2))
  (tSeq (tAsg (tCall (sp_number_from_one K) [] E0 (tCons (tOp (rIx K) (tVar 1) (tC (.int 2))) tNil)) (gName 3))
  (tSeq (tIfS (tOr (tTest (tOp rIsN (tVar 2) (tC .non))) (tOr (tTest (tOp rIsN (tVar 3) (tC .non))) (tNot (tTru K (tCall (sp_is_prime K) [] E0 (tCons (tVar 2) tNil)))))) (tRet (tC .non)) tNext)
  (tRet (tTup (tCons (tVar 2) (tCons (tVar 3) tNil)))))))))
abbrev t_row_read (K : PySem.W.Frag) : TS := (tRet (tCall (sp_numbers_below K) [] E0 (tCons (tM1 rSplit (tVar 2) (tC (.str ","))) (tCons (tVar 1) (tCons (tVar 0) tNil)))))
abbrev t_rows_read (K : PySem.W.Frag) : TS := (tSeq (tAsg (tM1 rSplit (tVar 2) (tC (.str " "))) (gName 3))
  (tSeq (tIfS (tTest (tOp (rNeP K) (tOp (rIx K) (tVar 3) (tC (.int 0))) (tC (.str "hall")))) (tRet (tC .non)) tNext)
  (tSeq (tAsg (tLc (iAny K (tSl (rSlP K) (tVar 3) (tPart (tC (.int 1))) tNoPart)) (gName 5) tYes (tCall (sp_row_read K) [] E0 (tCons (tVar 0) (tCons (tVar 1) (tCons (tVar 5) tNil)))) [5]) (gName 4))
  (tSeq (tIfS (tTest (tOp (rInD K) (tC .non) (tVar 4))) (tRet (tC .non)) tNext)
  (tRet (tCB (rTupP K) (tCons (tVar 4) tNil)))))))
abbrev t_halls_read (K : PySem.W.Frag) : TS := (tSeq (tAsg (tLst tNil) (gName 3))
  (tSeq (tFor (iAny K (tVar 2)) (gName 4) (tSeq (tAsg (tCall (sp_rows_read K) [] E0 (tCons (tVar 0) (tCons (tVar 1) (tCons (tVar 4) tNil)))) (gName 5))
  (tSeq (tIfS (tTest (tOp rIsN (tVar 5) (tC .non))) tBreak tNext)
  (tDrop (tBM K "list" rAppend (tVar 3) (tCons (tVar 5) tNil))))))
  (tRet (tCB (rTupP K) (tCons (tVar 3) tNil)))))

theorem sp_free (z : Str) : (spS z).length ≤ z.length + 2 := split_le z " "
theorem cut_tail (x : PyData) (xs : List PyData) : cutD (x :: xs) (some 1) none = xs := by
  unfold cutD
  have e : HT.sIx (x :: xs).length 0 (some 1) = 1 := by
    rw [show (1 : Int) = ((1 : Nat) : Int) from rfl, HT.sIx_nat, List.length_cons]
    omega
  rw [HT.sIx_none, e]
  simp
theorem nbsV_or (ws : List Str) (m p : Int) : nbsV ws m p = .none ∨ (nbsV ws m p = .tuple (ws.map (nbV p)) ∧ (ws.length : Int) = m ∧ (ws.map (nbV p)).any isNon = false) := by
  unfold nbsV
  by_cases h : (decide ((ws.length : Int) = m) && !(ws.map (nbV p)).any isNon) = true
  · rw [if_pos h]
    simp only [Bool.and_eq_true, decide_eq_true_eq, Bool.not_eq_true'] at h
    exact .inr ⟨rfl, h.1, h.2⟩
  · rw [if_neg h]
    exact .inl rfl
theorem nbsV_sh (ws : List Str) (m p : Int) : Sh 1 (nbsV ws m p) := by
  rcases nbsV_or ws m p with e | ⟨e, _⟩ <;> rw [e]
  · exact ⟨rfl, Nat.zero_le _⟩
  · exact Sh.t fun d hd => by
      obtain ⟨w, _, rfl⟩ := List.mem_map.mp hd
      exact ⟨(nbV_sh p w).1, Nat.le_of_eq (nbV_sh p w).2⟩
theorem nbsV_nl (ws : List Str) (m p : Int) : nl (nbsV ws m p) = true := by
  rcases nbsV_or ws m p with e | ⟨e, _⟩ <;> rw [e]
  · rfl
  · exact nl_t fun d hd => by
      obtain ⟨w, _, rfl⟩ := List.mem_map.mp hd
      exact nbV_nl p w
theorem rrV_or (p k : Int) (z : Str) : rrV p k z = .none ∨ ∃ ws, spS z = ("hall" : Str) :: ws ∧ rrV p k z = .tuple (ws.map (rwV p k)) ∧ (ws.map (rwV p k)).any isNon = false := by
  unfold rrV
  cases h : spS z with
  | nil => exact .inl rfl
  | cons a ws =>
    dsimp only
    by_cases ha : a = "hall"
    · rw [if_pos ha]
      cases hb : (ws.map (rwV p k)).any isNon with
      | true => rw [if_pos rfl]; exact .inl rfl
      | false => rw [if_neg Bool.false_ne_true]; exact .inr ⟨ws, by rw [ha], rfl, hb⟩
    · rw [if_neg ha]
      exact .inl rfl
theorem rrV_nl (p k : Int) (z : Str) : nl (rrV p k z) = true := by
  rcases rrV_or p k z with e | ⟨ws, _, e, _⟩ <;> rw [e]
  · rfl
  · exact nl_t fun d hd => by
      obtain ⟨w, _, rfl⟩ := List.mem_map.mp hd
      exact nbsV_nl _ _ _
theorem hrV_nl (p k : Int) (ls : List Str) : nl (.tuple (hrV p k ls)) = true := nl_t fun d hd => by
  obtain ⟨z, _, rfl⟩ := List.mem_map.mp ((List.takeWhile_sublist _).subset hd)
  exact rrV_nl p k z
theorem hdV_ne {z : Str} (h : (spS z).length ≠ 3) : hdV z = .none := by
  unfold hdV
  split
  · rename_i e
    rw [e] at h
    exact absurd rfl h
  · rfl
section
variable {K : PySem.W.Frag} {vs : List V} {H : Hp} {Q : VK} {E : XK}
theorem go_head_read (h : sp_head_read K vs H Q E) : t_head_read K { nx := fun _ H' => Q .non H', rt := Q } (L2.start ["line", "words", "p", "k"] vs) H := by
  refine sp_wp h (fun E => inferInstance) ?_
  rintro C ks S Z hK hfr hZ ⟨z, rfl, hz, hh, rfl, rfl⟩
  have big := sl_big
  k_updF
  refine ⟨by decide +kernel, by omega, fun l => ?_⟩
  have none_of : ∀ {A : Prop}, hdV z = .none → (C.fr = true ∨ nl .none = true) ∧ Kd.dat .none = Kd.dat (hdV z) := fun e => by rw [e]; exact ⟨.inr rfl, rfl⟩
  have hp3 : ∀ w ∈ spS z, w.length ≤ 640 := fun w hw => Nat.le_trans (part_short hw) hz
  unfold HkP at hh
  rw [List.length_map]
  by_cases h3 : (spS z).length ≠ 3
  · refine gEq_i ?_
    rw [decide_eq_false (show ¬ (((spS z).length : Int) = 3) by omega)]
    k_updF
    rw [hdV_ne h3]
    k_keys
  · have h3 : (spS z).length = 3 := by omega
    obtain ⟨a, b, c, hws⟩ : ∃ a b c, spS z = [a, b, c] := by
      match hw : spS z, h3 with
      | [a, b, c], _ => exact ⟨a, b, c, rfl⟩
    rw [show Txt.split z " " = [a, b, c] from hws]
    have hlb := hp3 b (by rw [hws]; simp)
    have hlc := hp3 c (by rw [hws]; simp)
    refine gEq_i ?_
    show gB (.dat (.bool false)) _
    k_updF
    refine gIx_of (ds := [PyData.str a, .str b, .str c]) (d := .str a) rfl (at_nat (n := 0) rfl) ?_
    refine gEq_s ?_
    k_updF
    have hd0 : hdV z = (if a = "book" then (match nwV b, n1V c with
    | .int p, .int k => if prB p then .tuple [.int p, .int k] else .none
    | _, _ => .none) else .none) := by unfold hdV; rw [hws]
    by_cases ha : a = "book"
    · rw [decide_eq_true ha]
      k_updF
      rw [if_pos ha] at hd0
      refine gIx_of (ds := [PyData.str a, .str b, .str c]) (d := .str b) rfl (at_nat (n := 1) rfl) ?_
      refine gCall_of (A := A_anyn) rfl ⟨b, rfl, hlb, rfl, rfl⟩ (imp_eq ?_)
      k_updF
      refine gIx_of (ds := [PyData.str a, .str b, .str c]) (d := .str c) rfl (at_nat (n := 2) rfl) ?_
      refine gCall_of (A := A_from1) rfl ⟨c, rfl, hlc, rfl, rfl⟩ (imp_eq ?_)
      rcases nwV_or b with e | ⟨n, e⟩
      · rw [e] at hd0 ⊢
        k_updF
        rw [hd0]
        k_keys
      · rw [e] at hd0 ⊢
        k_updF
        rcases n1V_or c with e2 | ⟨m, e2, _, _⟩
        · rw [e2] at hd0 ⊢
          k_updF
          rw [hd0]
          k_keys
        · rw [e2] at hd0 ⊢
          k_updF
          refine gCall_of (A := A_prn) rfl ⟨n, rfl, hh a b c hws ha n e, rfl, rfl⟩ (imp_eq ?_)
          dsimp only at hd0
          cases hp : prB (n : Int) with
          | true =>
            rw [hp, if_pos rfl] at hd0
            k_updF
            refine gTupK_of rfl (by show 2 ≤ _; omega) ?_
            rw [hd0]
            k_updF
            k_keys
          | false =>
            rw [hp, if_neg Bool.false_ne_true] at hd0
            k_updF
            rw [hd0]
            k_keys
    · rw [decide_eq_false ha]
      k_updF
      rw [hd0, if_neg ha]
      k_keys
theorem go_row_read (h : sp_row_read K vs H Q E) : t_row_read K { nx := fun _ H' => Q .non H', rt := Q } (L2.start ["p", "k", "word"] vs) H := by
  refine sp_wp h (fun E => inferInstance) ?_
  rintro C ks S Z hK hfr hZ ⟨p, k, w, rfl, hw, rfl, rfl⟩
  have big := sl_big
  k_updF
  refine ⟨by decide +kernel, by omega, ?_⟩
  have hl := split_le w ","
  refine gCall_of (A := A_nsbelow) rfl ⟨Txt.split w ",", k, p, rfl, fun x hx => Nat.le_trans (part_short hx) hw, by omega, rfl, rfl⟩ (imp_eq ?_)
  exact ⟨.inr (nbsV_nl _ _ _), rfl⟩
theorem go_rows_read (h : sp_rows_read K vs H Q E) : t_rows_read K { nx := fun _ H' => Q .non H', rt := Q } (L2.start ["p", "k", "line", "words", "rows", "word"] vs) H := by
  refine sp_wp h (fun E => inferInstance) ?_
  rintro C ks S Z hK hfr hZ ⟨p, k, z, rfl, hz, rfl, rfl⟩
  have big := sl_big
  k_updF
  refine ⟨by decide +kernel, by omega, fun l => ?_⟩
  have hp3 : ∀ w ∈ spS z, w.length ≤ 640 := fun w hw => Nat.le_trans (part_short hw) hz
  have hl := sp_free z
  have h1 := split_pos z " "
  cases hws : spS z with
  | nil => rw [show Txt.split z " " = [] from hws] at h1; cases h1
  | cons a ws =>
    rw [show Txt.split z " " = a :: ws from hws]
    refine gIx_of (ds := (a :: ws).map PyData.str) (d := .str a) rfl (at_nat (n := 0) rfl) ?_
    refine gEq_s ?_
    k_updF
    have hr0 : rrV p k z = (if a = "hall" then (if (ws.map (rwV p k)).any isNon then .none else .tuple (ws.map (rwV p k))) else .none) := by unfold rrV; rw [hws]
    by_cases ha : a = "hall"
    · rw [if_pos ha] at hr0
      rw [decide_eq_true ha]
      k_updF
      rw [List.map_cons, cut_tail]
      refine ⟨_, rfl, gLc_map (fun d => rwV p k (unS d)) rfl (by rw [List.length_map]; rw [hws, List.length_cons] at hl; omega) (fun ρ S s => s) ?_ ?_⟩
      · intro n x ex
        rw [List.getElem?_map] at ex
        obtain ⟨w, hw, rfl⟩ := Option.map_eq_some_iff.mp ex
        refine ⟨nbsV_nl _ _ _, fun S s => ?_⟩
        k_updF
        exact gCall_of (A := A_rr) rfl ⟨p, k, w, rfl, hp3 w (by rw [hws]; exact List.mem_cons_of_mem _ (lof hw)), rfl, rfl⟩ (imp_eq s)
      · k_updF
        intro l2
        rw [List.map_map]
        have em : ws.map ((fun d => rwV p k (unS d)) ∘ PyData.str) = ws.map (rwV p k) := rfl
        rw [em]
        have sh : SeqAt.shaped (.list (ws.map (rwV p k))) = true := (Sh.l (n := 1) fun d hd => by
          obtain ⟨w, _, rfl⟩ := List.mem_map.mp hd
          exact nbsV_sh _ _ _).shaped
        refine gInD_of rfl rfl rfl sh ?_
        k_updF
        rw [any_none]
        cases hn : (ws.map (rwV p k)).any isNon with
        | true =>
          rw [hn, if_pos rfl] at hr0
          k_updF
          rw [hr0]
          k_keys
        | false =>
          rw [hn, if_neg Bool.false_ne_true] at hr0
          k_updF
          have n1 := rrV_nl p k z
          rw [hr0] at n1 ⊢
          exact ⟨.inr n1, rfl⟩
    · rw [if_neg ha] at hr0
      rw [decide_eq_false ha]
      k_updF
      rw [hr0]
      k_keys
theorem takeW_stop {α : Type} {f : α → Bool} {xs : List α} {n : Nat} {x : α} (h : xs[n]? = some x) (hx : f x = false) (hp : ∀ y ∈ xs.take n, f y = true) : xs.takeWhile f = xs.take n := by
  induction xs generalizing n with
  | nil => simp at h
  | cons a r ih =>
    cases n with
    | zero =>
      simp at h
      subst h
      simp [List.takeWhile_cons, hx]
    | succ n =>
      have ha : f a = true := hp a (by simp)
      rw [List.takeWhile_cons, ha, List.take_succ_cons]
      simp only [if_true]
      rw [ih (by simpa using h) fun y hy => hp y (by simp [hy])]
theorem takeW_all {α : Type} {f : α → Bool} : ∀ {xs : List α}, (∀ y ∈ xs, f y = true) → xs.takeWhile f = xs
  | [], _ => rfl
  | a :: r, h => by
    rw [List.takeWhile_cons, h a List.mem_cons_self]
    simp only [if_true]
    rw [takeW_all fun y hy => h y (List.mem_cons_of_mem _ hy)]
theorem go_halls_read (h : sp_halls_read K vs H Q E) : t_halls_read K { nx := fun _ H' => Q .non H', rt := Q } (L2.start ["p", "k", "lines", "halls", "line", "rows"] vs) H := by
  refine sp_wp h (fun E => inferInstance) ?_
  rintro C ks S Z hK hfr hZ ⟨p, k, ls, rfl, hz, hl, rfl, rfl⟩
  have big := sl_big
  k_updF
  refine gLstK_of (ds := []) rfl (Nat.zero_le _) ?_
  k_updF
  intro l
  refine ⟨_, rfl, fun n ρ => ∃ x y, ρ = [.dat (.int p), .dat (.int k), .dat (.list (ls.map .str)), .own l ((ls.map (rrV p k)).take n), x, y] ∧ ∀ d ∈ (ls.map (rrV p k)).take n, (!isNon d) = true, ⟨.un, .un, by simp, by simp⟩, ?_, ?_⟩
  · rintro v d' n a _ ea ⟨x, y, rfl, hp⟩
    rw [List.getElem?_map] at ea
    obtain ⟨z, hz1, rfl⟩ := Option.map_eq_some_iff.mp ea
    have hn := (List.getElem?_eq_some_iff.mp hz1).1
    have ez : (ls.map (rrV p k))[n]? = some (rrV p k z) := by rw [List.getElem?_map, hz1]; rfl
    k_updF
    refine gCall_of (A := A_rrs) rfl ⟨p, k, z, rfl, hz z (lof hz1), rfl, rfl⟩ (imp_eq ?_)
    k_updF
    refine ⟨fun h => ?_, fun h => ?_⟩
    · have h : isNon (rrV p k z) = true := h
      have e := takeW_stop (f := fun d => !isNon d) ez (by rw [h]; rfl) hp
      refine ⟨.inr ?_, by unfold hrV; rw [e]⟩
      rw [← e]
      exact hrV_nl p k ls
    · refine ⟨by rw [List.length_take]; omega, .dat (.str z), .dat (rrV p k z), ?_, ?_⟩
      · rw [take_succ_ofI ez]
      · rw [take_succ_ofI ez]
        intro d hd
        rcases List.mem_append.mp hd with hd | hd
        · exact hp d hd
        · have h : isNon (rrV p k z) = false := h
          rw [List.mem_singleton.mp hd, h]
          rfl
  · rintro _ ⟨x, y, rfl, hp⟩
    rw [List.length_map] at hp ⊢
    have e : (ls.map (rrV p k)).take ls.length = ls.map (rrV p k) := List.take_of_length_le (by rw [List.length_map]; exact Nat.le_refl _)
    rw [e] at hp ⊢
    k_updF
    have e2 : hrV p k ls = ls.map (rrV p k) := by
      unfold hrV
      exact takeW_all hp
    refine ⟨.inr ?_, by rw [e2]⟩
    rw [← e2]
    exact hrV_nl p k ls
end
end Mh
namespace Mh
open PySem PySem.Spec PyProof.Rows L2 TL
local macro_rules | `(tactic| k_updF) => `(tactic| try simp only [gV_some, gI0_i, gII_i, gAdd_i, gAdd_s, gAdd_t, gAdd_nn, gAdd_on, gAdd_no, gMul_i, gNon_d, gNeg_i, gPart_i, gSl_s, gSl_t, gSl_o, gSl_n, gSl_l, gLen_s, gLen_t, gLen_l, gLen_o, gLen_n, gInt_i, gStr_i, gTupC_n, gTupC_o, gTupC_l, gTupC_t, gII2_i, gB_b, gTr_b, gIf_t, gIf_f, gTx_s, gSplit_s, gRng1_i, gRng2_i, gR1_i, gOwn_o, gItem_d, gItem_n, gAug_i, gInt1_i, gPair_t, gFmt_s, gFmt_i, gJn_s, NxA, RtK, rdK, List.length_cons, List.length_nil, Nat.reduceAdd, Nat.reduceSub, Nat.reduceLT, List.replicate_succ, List.replicate_zero, List.cons_append, List.nil_append, List.append_nil, List.getElem?_cons_zero, List.getElem?_cons_succ, List.set_cons_zero, List.set_cons_succ, true_and, and_true, isNon_n, isNon_i, isNon_b, isNon_s, isNon_t, isNon_l, isNon_d, Bool.not_true, Bool.not_false, id_eq, lcR, notOwn, gIsi_int_none, gIsi_int_bool, gIsi_int_int, gIsi_int_str, gIsi_int_tuple, gIsi_int_list, gIsi_int_own, gIsi_int_new, gIsi_bool_none, gIsi_bool_bool, gIsi_bool_int, gIsi_bool_str, gIsi_bool_tuple, gIsi_bool_list, gIsi_bool_own, gIsi_bool_new, gIsi_tuple_none, gIsi_tuple_bool, gIsi_tuple_int, gIsi_tuple_str, gIsi_tuple_tuple, gIsi_tuple_list, gIsi_tuple_own, gIsi_tuple_new, gIsi_str_none, gIsi_str_bool, gIsi_str_int, gIsi_str_str, gIsi_str_tuple, gIsi_str_list, gIsi_str_own, gIsi_str_new, gIsi_list_none, gIsi_list_bool, gIsi_list_int, gIsi_list_str, gIsi_list_tuple, gIsi_list_list, gIsi_list_own, gIsi_list_new])
local macro_rules | `(tactic| k_keys) => `(tactic| first | exact ⟨.inr rfl, rfl⟩ | exact .inr rfl | rfl | trivial | (refine ⟨.inr ?_, rfl⟩; assumption) | (refine .inr ?_; assumption))

/-! ### book_ahead, read_book -/
theorem nbV_in {p : Int} {w : Str} (h : isNon (nbV p w) = false) : ∃ n : Int, nbV p w = .int n ∧ 0 ≤ n ∧ n < p := by
  rcases nbV_or p w with e | ⟨n, e, h1, _⟩
  · rw [e] at h; cases h
  · exact ⟨n, e, by omega, h1⟩
theorem row_ints {p : Int} {ws : List Str} (h : (ws.map (nbV p)).any isNon = false) : ∃ ns : List Int, ws.map (nbV p) = ns.map .int ∧ ns.length = ws.length ∧ ∀ i ∈ ns, 0 ≤ i ∧ i < p := by
  induction ws with
  | nil => exact ⟨[], rfl, rfl, fun i hi => by cases hi⟩
  | cons w r ih =>
    rw [List.map_cons, List.any_cons, Bool.or_eq_false_iff] at h
    obtain ⟨ns, e1, e2, e3⟩ := ih h.2
    obtain ⟨n, f1, f2, f3⟩ := nbV_in h.1
    refine ⟨n :: ns, by rw [List.map_cons, List.map_cons, f1, e1], by simp [e2], fun i hi => ?_⟩
    rcases List.mem_cons.mp hi with rfl | hi
    · exact ⟨f2, f3⟩
    · exact e3 i hi
theorem rwV_row {p k : Int} {w : Str} (h : isNon (rwV p k w) = false) : ∃ ns : List Int, rwV p k w = rowD ns ∧ (ns.length : Int) = k ∧ ns.length = (Txt.split w ",").length ∧ ∀ i ∈ ns, 0 ≤ i ∧ i < p := by
  unfold rwV at h ⊢
  rcases nbsV_or (Txt.split w ",") k p with e | ⟨e, e2, e3⟩
  · rw [e] at h; cases h
  · obtain ⟨ns, g1, g2, g3⟩ := row_ints e3
    exact ⟨ns, by rw [e, g1]; rfl, by rw [g2]; exact e2, g2, g3⟩
def gdR (p k : Int) (ns : List Int) : Prop := (ns.length : Int) = k ∧ ∀ i ∈ ns, 0 ≤ i ∧ i < p
theorem rows_of {p k : Int} : ∀ {ws : List Str}, (ws.map (rwV p k)).any isNon = false → ∃ rs : List (List Int), ws.map (rwV p k) = rs.map rowD ∧ rs.length = ws.length ∧ ∀ r ∈ rs, gdR p k r ∧ ∃ w ∈ ws, r.length = (Txt.split w ",").length
  | [], _ => ⟨[], rfl, rfl, fun r hr => by cases hr⟩
  | w :: ws, h => by
    rw [List.map_cons, List.any_cons, Bool.or_eq_false_iff] at h
    obtain ⟨rs, e1, e2, e3⟩ := rows_of h.2
    obtain ⟨ns, f1, f2, f3, f4⟩ := rwV_row h.1
    refine ⟨ns :: rs, by rw [List.map_cons, List.map_cons, f1, e1], by simp [e2], fun r hr => ?_⟩
    rcases List.mem_cons.mp hr with rfl | hr
    · exact ⟨⟨f2, f4⟩, w, List.mem_cons_self, f3⟩
    · obtain ⟨g1, w', g2, g3⟩ := e3 r hr
      exact ⟨g1, w', List.mem_cons_of_mem _ g2, g3⟩
theorem rrV_rows {p k : Int} {z : Str} (h : isNon (rrV p k z) = false) : ∃ rs : List (List Int), rrV p k z = rsD rs ∧ rs.length + 1 = (spS z).length ∧ ∀ r ∈ rs, gdR p k r ∧ ∃ w ∈ spS z, r.length = (Txt.split w ",").length := by
  rcases rrV_or p k z with e | ⟨ws, e0, e, e3⟩
  · rw [e] at h; cases h
  · obtain ⟨rs, g1, g2, g3⟩ := rows_of e3
    refine ⟨rs, by rw [e, g1]; rfl, by rw [e0, List.length_cons, g2], fun r hr => ?_⟩
    obtain ⟨q1, w, q2, q3⟩ := g3 r hr
    exact ⟨q1, w, by rw [e0]; exact List.mem_cons_of_mem _ q2, q3⟩
/-- the halls read, as numbers -/
def hrI (p k : Int) (ls : List Str) : List (List (List Int)) := (hrV p k ls).map hsL
theorem tw_mem {α : Type} {f : α → Bool} {xs : List α} {y : α} (h : y ∈ xs.takeWhile f) : f y = true ∧ y ∈ xs := by
  induction xs with
  | nil => cases h
  | cons a r ih =>
    rw [List.takeWhile_cons] at h
    cases ha : f a with
    | false => rw [ha] at h; cases h
    | true =>
      rw [ha, if_pos rfl] at h
      rcases List.mem_cons.mp h with rfl | h
      · exact ⟨ha, List.mem_cons_self⟩
      · exact ⟨(ih h).1, List.mem_cons_of_mem _ (ih h).2⟩
theorem hrV_mem {p k : Int} {ls : List Str} {d : PyData} (h : d ∈ hrV p k ls) : ∃ z ∈ ls, ∃ rs, d = rsD rs ∧ rs.length + 1 = (spS z).length ∧ ∀ r ∈ rs, gdR p k r ∧ ∃ w ∈ spS z, r.length = (Txt.split w ",").length := by
  obtain ⟨h1, h2⟩ := tw_mem h
  obtain ⟨z, hz, rfl⟩ := List.mem_map.mp h2
  obtain ⟨rs, e1, e2, e3⟩ := rrV_rows (p := p) (k := k) (z := z) (by simpa using h1)
  exact ⟨z, hz, rs, e1, e2, e3⟩
theorem hrI_D (p k : Int) (ls : List Str) : hsD (hrI p k ls) = .tuple (hrV p k ls) := by
  unfold hsD hrI
  rw [List.map_map]
  congr 1
  conv => rhs; rw [← List.map_id (hrV p k ls)]
  refine List.map_congr_left fun d hd => ?_
  obtain ⟨z, _, rs, rfl, _⟩ := hrV_mem hd
  show rsD (hsL (rsD rs)) = _
  rw [hsL_rs]
  rfl
theorem hrI_mem {p k : Int} {ls : List Str} {rs : List (List Int)} (h : rs ∈ hrI p k ls) : ∃ z ∈ ls, rs.length + 1 = (spS z).length ∧ ∀ r ∈ rs, gdR p k r ∧ ∃ w ∈ spS z, r.length = (Txt.split w ",").length := by
  obtain ⟨d, hd, rfl⟩ := List.mem_map.mp h
  obtain ⟨z, hz, rs, rfl, e1, e2⟩ := hrV_mem hd
  rw [hsL_rs]
  exact ⟨z, hz, e1, e2⟩
theorem hdV_pk {z : Str} {p k : PyData} (h : hdV z = .tuple [p, k]) : ∃ p' k' : Int, p = .int p' ∧ k = .int k' ∧ prB p' = true ∧ 1 ≤ k' ∧ ∃ a b c, spS z = [a, b, c] ∧ a = "book" ∧ nwV b = .int p' ∧ nwV c = .int k' ∧ 0 ≤ p' := by
  unfold hdV at h
  split at h
  · rename_i a b c hs
    by_cases ha : a = "book"
    · rw [if_pos ha] at h
      rcases nwV_or b with e | ⟨n, e⟩
      · rw [e] at h; cases h
      · rw [e] at h
        rcases n1V_or c with e2 | ⟨m, e2, h1, e3⟩
        · rw [e2] at h; cases h
        · rw [e2] at h
          dsimp only at h
          cases hp : prB (n : Int) with
          | false => rw [hp, if_neg Bool.false_ne_true] at h; cases h
          | true =>
            rw [hp, if_pos rfl] at h
            cases h
            exact ⟨n, m, rfl, rfl, hp, by omega, a, b, c, hs, ha, e, e3, by omega⟩
    · rw [if_neg ha] at h; cases h
  · cases h
theorem hdV_or (z : Str) : hdV z = .none ∨ ∃ p k : Int, hdV z = .tuple [.int p, .int k] := by
  unfold hdV
  split
  · rename_i a b c hs
    by_cases ha : a = "book"
    · rw [if_pos ha]
      rcases nwV_or b with e | ⟨n, e⟩
      · rw [e]; exact .inl rfl
      · rw [e]
        rcases n1V_or c with e2 | ⟨m, e2, h1, e3⟩
        · rw [e2]; exact .inl rfl
        · rw [e2]
          dsimp only
          cases hp : prB (n : Int) with
          | false => exact .inl rfl
          | true => exact .inr ⟨n, m, rfl⟩
    · rw [if_neg ha]; exact .inl rfl
  · exact .inl rfl
theorem row_chk {p k : Int} {r : List Int} (h : gdR p k r) : anB k p (rowD r) = true := by
  simp only [anB, rowD, List.length_map, Bool.and_eq_true, decide_eq_true_eq, List.all_map, List.all_eq_true]
  exact ⟨h.1, fun i hi => by
    show inB p (.int i) = true
    have := h.2 i hi
    simp [inB, this]⟩
theorem halls_chk {p k : Int} {hs : List (List (List Int))} (h0 : 0 < hs.length) (h : ∀ rs ∈ hs, ∀ r ∈ rs, gdR p k r) : ahB p k (hsD hs) = true := by
  simp only [ahB, hsD, List.length_map, Bool.and_eq_true, decide_eq_true_eq, List.all_map, List.all_eq_true]
  refine ⟨h0, fun rs hr => ?_⟩
  show arB k p (rsD rs) = true
  simp only [arB, rsD, List.all_map, List.all_eq_true]
  exact fun r hr2 => row_chk (h rs hr r hr2)
theorem halls_ok {hs : List (List (List Int))} (h0 : hs.length ≤ 100000) (h : ∀ rs ∈ hs, rs.length ≤ 100000 ∧ ∀ r ∈ rs, r.length ≤ 100000) : ok3 (hsD hs) = true := by
  simp only [ok3, hsD, List.length_map, Bool.and_eq_true, decide_eq_true_eq, List.all_map, List.all_eq_true]
  refine ⟨fun rs hr => ?_, h0⟩
  show ok2 (rsD rs) = true
  simp only [ok2, rsD, List.length_map, Bool.and_eq_true, decide_eq_true_eq, List.all_map, List.all_eq_true]
  refine ⟨fun r hr2 => ?_, (h rs hr).1⟩
  show ok1 (rowD r) = true
  simp only [ok1, rowD, List.length_map, Bool.and_eq_true, decide_eq_true_eq, List.all_map, List.all_eq_true]
  exact ⟨fun i _ => rfl, (h rs hr).2 r hr2⟩
theorem read_bkOk {p k : Int} {ls : List Str} {z0 : Str} (hh : HkP z0) (e : hdV z0 = .tuple [.int p, .int k]) (hz : ∀ z ∈ ls, z.length ≤ 640) (hl : ls.length ≤ 10000) (h0 : hrV p k ls ≠ []) : bkOk p k (hrI p k ls) := by
  obtain ⟨p', k', e1, e2, hp, hk, a, b, c, hs, ha, hb, hc, _⟩ := hdV_pk e
  cases e1
  cases e2
  have hlen : (hrI p k ls).length ≤ ls.length := by
    unfold hrI
    rw [List.length_map]
    have := (List.takeWhile_prefix (p := fun d => !isNon d) (l := ls.map (rrV p k))).length_le
    rw [List.length_map] at this
    exact this
  refine ⟨hh a b c hs ha p hb, hp, hk, halls_ok (by omega) fun rs hr => ?_, halls_chk ?_ fun rs hr r hr2 => ?_⟩
  · obtain ⟨z, hzl, g1, g2⟩ := hrI_mem hr
    have hzz := hz z hzl
    have := sp_free z
    refine ⟨by omega, fun r hr2 => ?_⟩
    obtain ⟨_, w, hw, hw2⟩ := g2 r hr2
    have h1 := split_le w ","
    have h2 : w.length ≤ z.length := part_short hw
    omega
  · unfold hrI
    rw [List.length_map]
    exact List.length_pos_iff.mpr h0
  · obtain ⟨z, hzl, g1, g2⟩ := hrI_mem hr
    exact (g2 r hr2).1
def txZ (D : Addr) (text : Str) (q : Nat → Prop) : Zt := fun cls fs => cls = .ref D ∧ ∃ n, q n ∧ fs = [(("at" : Str), PyData.int (n : Nat)), (("text" : Str), PyData.str text)]
def A_ba (K : PySem.W.Frag) (D : Addr) : At := fun ks S Z => ∃ (text z0 : Str) (ls : List Str), ks = [.dat (.str text), .dat (.list ((z0 :: ls).map .str))] ∧ HkP z0 ∧ (∀ z ∈ z0 :: ls, z.length ≤ 640) ∧ ls.length ≤ 10000 ∧
  S = (fun x => ∃ a p k, hdV z0 = .tuple [.int p, .int k] ∧ hrV p k ls ≠ [] ∧ x = .dat (bkD K a p k (hrI p k ls))) ∧
  Z = txZ D text fun n => (hdV z0 = .none ∧ n = 0) ∨ ∃ p k, hdV z0 = .tuple [.int p, .int k] ∧ hrV p k ls = [] ∧ n = 1
abbrev sp_book_aheadX (K : PySem.W.Frag) (D : Addr) : Sp := SpP K (A_ba K D)
def A_rb (K : PySem.W.Frag) (D : Addr) : At := fun ks S Z => ∃ (text z0 : Str) (ls : List Str), ks = [.dat (.str text)] ∧ text.length ≤ 100000 ∧ Txt.split text "\n" = z0 :: ls ∧ HkP z0 ∧ (∀ z ∈ z0 :: ls, z.length ≤ 640) ∧ ls.length ≤ 10000 ∧
  S = (fun x => ∃ a p k, hdV z0 = .tuple [.int p, .int k] ∧ hrV p k ls ≠ [] ∧ (hrV p k ls).length = ls.length ∧ x = .dat (bkD K a p k (hrI p k ls))) ∧
  Z = txZ D text fun n => (hdV z0 = .none ∧ n = 0) ∨ ∃ p k, hdV z0 = .tuple [.int p, .int k] ∧ (hrV p k ls = [] ∨ (hrV p k ls).length < ls.length) ∧ n = 1 + (hrV p k ls).length
abbrev sp_read_bookX (K : PySem.W.Frag) (D : Addr) : Sp := SpP K (A_rb K D)

abbrev t_book_aheadX (K : PySem.W.Frag) (D : Addr) (E : XK) : TS := (tSeq (tAsg (tCall (sp_head_read K) [] E0 (tCons (tOp (rIx K) (tVar 1) (tC (.int 0))) tNil)) (gName 2))
  (tSeq (tIfS (tTest (tOp rIsN (tVar 2) (tC .non))) (tRz D (tCons (tVar 0) (tCons (tC (.int 0)) tNil)) E) tNext)
  (tSeq (tAsg (tVar 2) (gTup K 2 (gCons (gName 3) (gCons (gName 4) gNil))))
  (tSeq (tAsg (tCall (sp_halls_read K) [] E0 (tCons (tVar 3) (tCons (tVar 4) (tCons (tSl (rSlP K) (tVar 1) (tPart (tC (.int 1))) tNoPart) tNil)))) (gName 5))
  (tSeq (tIfS (tNot (tTru K (tVar 5))) (tRz D (tCons (tVar 0) (tCons (tC (.int 1)) tNil)) E) tNext)
  (tRet (tMake (He.ga K "Book") (sp_Book___init K) [] E0 (tCons (tVar 3) (tCons (tVar 4) (tCons (tVar 5) tNil))))))))))
abbrev t_read_bookX (K : PySem.W.Frag) (D : Addr) (E : XK) : TS := (tSeq (tAsg (tM1 rSplit (tVar 0) (tC (.str "\n"))) (gName 1))
  (tSeq (tAsg (tCall (sp_book_aheadX K D) [] E (tCons (tVar 0) (tCons (tVar 1) tNil))) (gName 2))
  (tSeq (tIfS (tTest (tOp rLtI (tCall (sp_lines_used K) [] E0 (tCons (tVar 2) tNil)) (tCB (rLenP K) (tCons (tVar 1) tNil)))) (tRz D (tCons (tVar 0) (tCons (tCall (sp_lines_used K) [] E0 (tCons (tVar 2) tNil)) tNil)) E) tNext)
  (tRet (tVar 2)))))

instance {K : PySem.W.Frag} {E : XK} {D : Addr} {al : TA} {f : Ct → List Kd → (List Kd → Prop) → Prop} [b : WA K E al f] : WS K E (tRz D al E) (fun C ρ P => f C ρ fun ks => ∃ d1 d2, ks = [.dat d1, .dat d2] ∧ nl d1 = true ∧ nl d2 = true ∧ C.Z (.ref D) [("at", d2), ("text", d1)]) := inferInstanceAs (WS K E (fun _ σ H => tMkO D (spI2 D "text" "at") [] al σ H fun cls d H' => E cls d H') _)
section
variable {K : PySem.W.Frag} {D : Addr} {vs : List V} {H : Hp} {Q : VK} {E : XK}
theorem go_book_aheadX (h : sp_book_aheadX K D vs H Q E) : t_book_aheadX K D E { nx := fun _ H' => Q .non H', rt := Q } (L2.start ["text", "lines", "head", "p", "k", "halls"] vs) H := by
  refine sp_wpX (t := t_book_aheadX K D) h (fun E => inferInstance) ?_
  rintro C ks S Z hK hfr hZ ⟨text, z0, ls, rfl, hh, hz, hl, rfl, rfl⟩
  have big := sl_big
  k_updF
  refine gIx_of (ds := (z0 :: ls).map PyData.str) (d := .str z0) rfl (at_nat (n := 0) rfl) ?_
  refine gCall_of (A := A_hr) rfl ⟨z0, rfl, hz z0 List.mem_cons_self, hh, rfl, rfl⟩ (imp_eq ?_)
  rcases hdV_or z0 with e | ⟨p, k, e⟩
  · rw [e]
    k_updF
    exact ⟨_, _, rfl, rfl, rfl, by rw [hZ]; exact ⟨rfl, 0, .inl ⟨e, rfl⟩, rfl⟩⟩
  · rw [e]
    k_updF
    rw [List.map_cons, cut_tail]
    refine gCall_of (A := A_hsr) (ks' := [.dat (.int p), .dat (.int k), .dat (.list (ls.map .str))]) rfl ⟨p, k, ls, rfl, fun z hzz => hz z (List.mem_cons_of_mem _ hzz), hl, rfl, rfl⟩ (imp_eq ?_)
    by_cases h0 : hrV p k ls = []
    · rw [h0]
      refine gTr_of (b := false) rfl ?_
      k_updF
      exact ⟨_, _, rfl, rfl, rfl, by rw [hZ]; exact ⟨rfl, 1, .inr ⟨p, k, e, h0, rfl⟩, rfl⟩⟩
    · refine gTr_of (b := true) ?_ ?_
      · show some (!(hrV p k ls).isEmpty) = some true
        cases hq : hrV p k ls with
        | nil => exact absurd hq h0
        | cons _ _ => rfl
      k_updF
      refine ⟨p, k, hrI p k ls, by rw [hrI_D], read_bkOk hh e (fun z hzz => hz z (List.mem_cons_of_mem _ hzz)) hl h0, fun a => ?_⟩
      refine ⟨.inr ?_, a, p, k, rfl, h0, rfl⟩
      simp only [nl, nl.nlK, nl.nlAll, Bool.true_and, Bool.and_true]
      exact hsD_nl _
theorem go_read_bookX (B : BkC K) (h : sp_read_bookX K D vs H Q E) : t_read_bookX K D E { nx := fun _ H' => Q .non H', rt := Q } (L2.start ["text", "lines", "book"] vs) H := by
  refine sp_wpX (t := t_read_bookX K D) h (fun E => inferInstance) ?_
  rintro C ks S Z hK hfr hZ ⟨text, z0, ls, rfl, ht, hs, hh, hz, hl, rfl, rfl⟩
  have big := sl_big
  k_updF
  refine ⟨by decide +kernel, by omega, fun l => ?_⟩
  rw [hs]
  refine gCallZ_of (A := A_ba K D) (ks' := [.dat (.str text), .dat (.list ((z0 :: ls).map .str))]) rfl ⟨text, z0, ls, rfl, hh, hz, hl, rfl, rfl⟩ (fun cls fs ⟨e, n, hn, e2⟩ => by
    rw [hZ]
    refine ⟨e, n, ?_, e2⟩
    rcases hn with hn | ⟨p, k, h1, h2, h3⟩
    · exact .inl hn
    · exact .inr ⟨p, k, h1, .inl h2, by rw [h2, h3]; rfl⟩) ?_
  rintro _ ⟨a, p, k, e, h0, rfl⟩
  k_updF
  have hI : (hrI p k ls).length = (hrV p k ls).length := by unfold hrI; rw [List.length_map]
  refine gCall_of (A := A_lu K) rfl ⟨a, p, k, _, rfl, rfl, rfl⟩ (imp_eq ?_)
  rw [hI]
  k_updF
  have hle : (hrV p k ls).length ≤ ls.length := by
    have := (List.takeWhile_prefix (p := fun d => !isNon d) (l := ls.map (rrV p k))).length_le
    rw [List.length_map] at this
    exact this
  have hlm : (((z0 :: ls).map PyData.str).length : Int) = ls.length + 1 := by rw [List.length_map, List.length_cons]; omega
  rw [hlm]
  refine ⟨fun hlt => ?_, fun hlt => ?_⟩
  · have hlt2 : 1 + ((hrV p k ls).length : Int) < ls.length + 1 := by simpa using hlt
    refine gCall_of (A := A_lu K) rfl ⟨a, p, k, _, rfl, rfl, rfl⟩ (imp_eq ?_)
    refine ⟨_, _, rfl, rfl, rfl, ?_⟩
    rw [hZ, hI]
    exact ⟨rfl, 1 + (hrV p k ls).length, .inr ⟨p, k, e, .inr (by omega), rfl⟩, by rw [Int.natCast_add]; rfl⟩
  · have hlt2 : ¬ (1 + ((hrV p k ls).length : Int) < ls.length + 1) := by simpa using hlt
    refine ⟨.inr ?_, a, p, k, e, h0, by omega, rfl⟩
    simp only [nl, nl.nlK, nl.nlAll, Bool.true_and, Bool.and_true]
    exact hsD_nl _
end
end Mh
namespace Mh
open PySem PySem.Spec PyProof.Rows L2 TL
local macro_rules | `(tactic| k_updF) => `(tactic| try simp only [gV_some, gI0_i, gII_i, gAdd_i, gAdd_s, gAdd_t, gAdd_nn, gAdd_on, gAdd_no, gMul_i, gNon_d, gNeg_i, gPart_i, gSl_s, gSl_t, gSl_o, gSl_n, gSl_l, gLen_s, gLen_t, gLen_l, gLen_o, gLen_n, gInt_i, gStr_i, gTupC_n, gTupC_o, gTupC_l, gTupC_t, gII2_i, gB_b, gTr_b, gIf_t, gIf_f, gTx_s, gSplit_s, gRng1_i, gRng2_i, gR1_i, gOwn_o, gItem_d, gItem_n, gAug_i, gInt1_i, gPair_t, gFmt_s, gFmt_i, gJn_s, NxA, RtK, rdK, List.length_cons, List.length_nil, Nat.reduceAdd, Nat.reduceSub, Nat.reduceLT, List.replicate_succ, List.replicate_zero, List.cons_append, List.nil_append, List.append_nil, List.getElem?_cons_zero, List.getElem?_cons_succ, List.set_cons_zero, List.set_cons_succ, true_and, and_true, isNon_n, isNon_i, isNon_b, isNon_s, isNon_t, isNon_l, isNon_d, Bool.not_true, Bool.not_false, id_eq, lcR, notOwn, gIsi_int_none, gIsi_int_bool, gIsi_int_int, gIsi_int_str, gIsi_int_tuple, gIsi_int_list, gIsi_int_own, gIsi_int_new, gIsi_bool_none, gIsi_bool_bool, gIsi_bool_int, gIsi_bool_str, gIsi_bool_tuple, gIsi_bool_list, gIsi_bool_own, gIsi_bool_new, gIsi_tuple_none, gIsi_tuple_bool, gIsi_tuple_int, gIsi_tuple_str, gIsi_tuple_tuple, gIsi_tuple_list, gIsi_tuple_own, gIsi_tuple_new, gIsi_str_none, gIsi_str_bool, gIsi_str_int, gIsi_str_str, gIsi_str_tuple, gIsi_str_list, gIsi_str_own, gIsi_str_new, gIsi_list_none, gIsi_list_bool, gIsi_list_int, gIsi_list_str, gIsi_list_tuple, gIsi_list_list, gIsi_list_own, gIsi_list_new])
local macro_rules | `(tactic| k_keys) => `(tactic| first | exact ⟨.inr rfl, rfl⟩ | exact .inr rfl | rfl | trivial | (refine ⟨.inr ?_, rfl⟩; assumption) | (refine .inr ?_; assumption))

/-! ### k79: the law's own reader -/
def lnV (z : Str) : Int := if arf (tl z) then ((NumText.digitsVal (tl z) : Nat) : Int) else -1
theorem lnV_nw {z : Str} (hz : z.length ≤ 640) : (nwV z = .none ∧ lnV z = -1) ∨ ∃ n : Nat, nwV z = .int (n : Nat) ∧ lnV z = n := by
  unfold nwV numV lnV
  rw [decide_eq_false (show ¬ ((4000 : Int) < z.length) by omega), Bool.false_or]
  cases arf (tl z) with
  | true => exact .inr ⟨_, rfl, rfl⟩
  | false => exact .inl ⟨rfl, rfl⟩
def A_ln : At := fun ks S Z => ∃ z : Str, ks = [.dat (.str z)] ∧ z.length ≤ 640 ∧ S = (fun k => k = .dat (.int (lnV z))) ∧ Z = noZ
abbrev sp_law_number (K : PySem.W.Frag) : Sp := SpP K A_ln
def A_lp : At := fun ks S Z => ∃ n : Int, ks = [.dat (.int n)] ∧ n ≤ 31 ∧ S = (fun k => k = .dat (.bool (prB n))) ∧ Z = noZ
abbrev sp_law_prime (K : PySem.W.Frag) : Sp := SpP K A_lp
def lrV (p k : Int) (w : Str) : List PyData := match rwV p k w with
  | .none => []
  | d => [d]
def A_lrr : At := fun ks S Z => ∃ (p k : Int) (w : Str), ks = [.dat (.int p), .dat (.int k), .dat (.str w)] ∧ w.length ≤ 640 ∧ S = (fun x => x = .new (lrV p k w)) ∧ Z = noZ
abbrev sp_law_read_row (K : PySem.W.Frag) : Sp := SpP K A_lrr

abbrev t_law_number (K : PySem.W.Frag) : TS := (tSeq (tIfS (tOr (tTest (tOp (rEqP K) (tVar 0) (tC (.str "")))) (tTest (tOp rGtI (tCB (rLenP K) (tCons (tLc (iAny K (tVar 0)) (gName 1) (tTest (tOp rNotInS (tVar 1) (tC (.str "0123456789")))) (tVar 1) [1]) tNil)) (tC (.int 0))))) (tRet (tUn rNegI (tC (.int 1)))) tNext)
  (tSeq (tIfS (tAnd (tTest (tOp rGtI (tCB (rLenP K) (tCons (tVar 0) tNil)) (tC (.int 1)))) (tTest (tOp (rEqP K) (tOp (rIx K) (tVar 0) (tC (.int 0))) (tC (.str "0"))))) (tRet (tUn rNegI (tC (.int 1)))) tNext)
  (tRet (tCB (rIntP) (tCons (tVar 0) tNil)))))
abbrev t_law_prime (K : PySem.W.Frag) : TS := (tRet (tAndV (tOp rGtI (tVar 0) (tC (.int 1))) (tOp (rEqP K) (tCB (rLenP K) (tCons (tLc (iRng2 (tCons (tC (.int 2)) (tCons (tVar 0) tNil))) (gName 1) (tAnd (tTest (tOp rLeI (tOp (rMulP K) (tVar 1) (tVar 1)) (tVar 0))) (tTest (tOp (rEqP K) (tOp rModI (tCB (rIntP) (tCons (tVar 0) tNil)) (tVar 1)) (tC (.int 0))))) (tVar 1) [1]) tNil)) (tC (.int 0)))))
abbrev t_law_read_row (K : PySem.W.Frag) : TS := (tSeq (tAsg (tLc (iAny K (tM1 rSplit (tVar 2) (tC (.str ",")))) (gName 4) tYes (tCall (sp_law_number K) [] E0 (tCons (tVar 4) tNil)) [4]) (gName 3))
  (tSeq (tIfS (tOr (tTest (tOp (rNeP K) (tCB (rLenP K) (tCons (tVar 3) tNil)) (tVar 1))) (tOr (tTest (tOp rLtI (tCB (rMin K) (tCons (tVar 3) tNil)) (tC (.int 0)))) (tTest (tOp rGeI (tCB (rMax K) (tCons (tVar 3) tNil)) (tVar 0))))) (tRet (tLst tNil)) tNext)
  (tRet (tLst (tCons (tCB (rTupP K) (tCons (tVar 3) tNil)) tNil)))))

theorem sign_fil (l : List Nat) (f : Nat → Bool) : ((l.map fun c => PyData.str ⟨#[c]⟩).filter fun d => match d with | .str w => (tl w).all f | _ => false).length = (l.filter f).length := by
  induction l with
  | nil => rfl
  | cons a r ih =>
    rw [List.map_cons, List.filter_cons, List.filter_cons]
    have e : (match PyData.str ⟨#[a]⟩ with | .str w => (tl w).all f | _ => false) = f a := by
      show [a].all f = f a
      simp
    rw [e]
    cases f a with
    | true => simp only [if_true, List.length_cons, ih]
    | false => simp only [Bool.false_eq_true, if_false, ih]
def notFig : PyData → Bool
  | .str w => (tl w).all fun c => !fig c
  | _ => false
theorem fil_pos (l : List Nat) : decide (0 < (((l.filter fun c => !fig c).length : Nat) : Int)) = !(l.all fig) := by
  cases h : l.all fig with
  | true =>
    rw [List.all_eq_true] at h
    rw [List.filter_eq_nil_iff.mpr fun a ha => by rw [h a ha]; simp]
    rfl
  | false =>
    have : ∃ a ∈ l, fig a = false := by
      have h2 : ¬ (l.all fig = true) := by rw [h]; exact Bool.false_ne_true
      rw [List.all_eq_true] at h2
      simp only [Classical.not_forall] at h2
      obtain ⟨a, ha, hb⟩ := h2
      exact ⟨a, ha, by simpa using hb⟩
    obtain ⟨a, ha, hb⟩ := this
    have hm : a ∈ l.filter fun c => !fig c := List.mem_filter.mpr ⟨ha, by rw [hb]; rfl⟩
    have := List.length_pos_of_mem hm
    exact decide_eq_true (by omega)
section
variable {K : PySem.W.Frag} {vs : List V} {H : Hp} {Q : VK} {E : XK}
theorem go_law_number (h : sp_law_number K vs H Q E) : t_law_number K { nx := fun _ H' => Q .non H', rt := Q } (L2.start ["word", "sign"] vs) H := by
  refine sp_wp h (fun E => inferInstance) ?_
  rintro C ks S Z hK hfr hZ ⟨z, rfl, hz, rfl, rfl⟩
  have big := sl_big
  have hlen : z.length = (tl z).length := len_tl z
  k_updF
  refine gEq_s ?_
  k_updF
  refine ⟨fun h => ?_, fun h => ?_⟩
  · have e : z = "" := by simpa using h
    refine ⟨.inr rfl, ?_⟩
    rw [e, show lnV "" = -1 by decide +kernel]
  · have hne : tl z ≠ [] := fun e => by
      have : z = "" := ext_tl (by rw [e]; decide +kernel)
      simp [this] at h
    refine ⟨_, rfl, gLc_fil (fun d => d) notFig rfl (by rw [signs, List.length_map]; omega) ?_ ?_ ?_⟩
    · intro n a ea S s
      rw [signs, List.getElem?_map] at ea
      obtain ⟨c, _, rfl⟩ := Option.map_eq_some_iff.mp ea
      k_updF
      refine ⟨c, _, rfl, rfl, ?_⟩
      k_updF
      rw [mem_digs]
      have : notFig (.str ⟨#[c]⟩) = !fig c := by
        show ((tl (⟨#[c]⟩ : Str)).all fun c => !fig c) = _
        rw [show tl (⟨#[c]⟩ : Str) = [c] from rfl]
        simp
      rw [this] at s
      exact s
    · intro n a ea _
      rw [signs, List.getElem?_map] at ea
      obtain ⟨c, _, rfl⟩ := Option.map_eq_some_iff.mp ea
      refine ⟨rfl, fun S s => ?_⟩
      k_updF
      exact s
    · k_updF
      have e1 : (((signs z).filter notFig).map fun d => d).length = ((tl z).filter fun c => !fig c).length := by
        rw [List.length_map]
        exact sign_fil (tl z) fun c => !fig c
      rw [e1, fil_pos]
      refine ⟨fun hf => ?_, fun hf => ?_⟩
      · refine ⟨.inr rfl, ?_⟩
        have : arf (tl z) = false := by unfold arf; rw [show (tl z).all fig = false by simpa using hf]; rfl
        unfold lnV
        rw [this]
        rfl
      · have hf : (tl z).all fig = true := by simpa using hf
        refine ⟨by omega, fun h1 => ?_, fun h1 => ?_⟩
        · -- more than one sign
          have hl1 : 1 < z.length := by
            have h1 : (1 : Int) < z.length := by simpa using h1
            omega
          obtain ⟨c, r, hcr⟩ : ∃ c r, tl z = c :: r := by cases e : tl z with
            | nil => exact absurd e hne
            | cons c r => exact ⟨c, r, rfl⟩
          refine gIx_s (c := c) (by omega) (at_nat (n := 0) (by rw [hcr]; rfl)) ?_
          refine gEq_s ?_
          k_updF
          have hr : r ≠ [] := fun e => by rw [hlen, hcr, e] at hl1; simp at hl1
          have ha : arf (tl z) = !decide (c = 48) := by
            unfold arf
            rw [hf, hcr]
            simp [hr]
          have hd : decide ((⟨#[c]⟩ : Str) = "0") = decide (c = 48) := decide_eq_decide.mpr ⟨fun e => by
            have := congrArg tl e
            have e2 : tl ("0" : Str) = [48] := by decide +kernel
            rw [e2] at this
            simpa [tl] using this, fun e => by subst e; exact ext_tl (by decide +kernel)⟩
          rw [hd]
          refine ⟨fun h2 => ⟨.inr rfl, ?_⟩, fun h2 => ?_⟩
          · unfold lnV
            rw [ha, h2]
            rfl
          · rw [h2] at ha
            have ha : arf (tl z) = true := ha
            obtain ⟨g1, g2⟩ := arf_fig ha
            have hi := SX.int_S g1 g2 (by rw [← len_tl]; omega)
            rw [show (SX.S (tl z)) = z from SX.S_tl z] at hi
            refine gInt_s hi (by omega) ⟨.inr rfl, ?_⟩
            unfold lnV
            rw [ha]
            rfl
        · -- one sign alone
          have hl1 : ¬ (1 < z.length) := by
            have h1 : (z.length : Int) ≤ 1 := by simpa using h1
            omega
          obtain ⟨c, hc⟩ : ∃ c, tl z = [c] := by
            match e : tl z with
            | [] => exact absurd e hne
            | [c] => exact ⟨c, rfl⟩
            | c :: d :: r => rw [hlen, e] at hl1; simp at hl1
          have ha : arf (tl z) = true := by
            unfold arf
            rw [hf, hc]
            by_cases h48 : c = 48 <;> simp [h48]
          obtain ⟨g1, g2⟩ := arf_fig ha
          have hi := SX.int_S g1 g2 (by rw [← len_tl]; omega)
          rw [show (SX.S (tl z)) = z from SX.S_tl z] at hi
          refine gInt_s hi (by omega) ⟨.inr rfl, ?_⟩
          unfold lnV
          rw [ha]
          rfl
def sqB (n : Int) : PyData → Bool
  | .int x => decide (x * x ≤ n) && decide (n % x = 0)
  | _ => false
theorem pr_fin (n : Int) (h1 : 2 ≤ n) (h2 : n ≤ 31) : decide (((((intsL 2 (n - 2).toNat).filter (sqB n)).length : Nat) : Int) = 0) = prB n := by
  have all : ∀ k : Nat, k < 32 → 2 ≤ k → decide (((((intsL 2 ((k : Int) - 2).toNat).filter (sqB k)).length : Nat) : Int) = 0) = prB k := by decide +kernel
  have := all n.toNat (by omega) (by omega)
  rw [show ((n.toNat : Nat) : Int) = n by omega] at this
  exact this
theorem go_law_prime (h : sp_law_prime K vs H Q E) : t_law_prime K { nx := fun _ H' => Q .non H', rt := Q } (L2.start ["number", "x"] vs) H := by
  refine sp_wp h (fun E => inferInstance) ?_
  rintro C ks S Z hK hfr hZ ⟨n, rfl, hn, rfl, rfl⟩
  have big := sl_big
  k_updF
  refine ⟨fun h => ?_, fun h => ?_⟩
  · have h1 : 1 < n := by simpa using h
    refine ⟨by decide, by omega, gLc_fil (fun d => d) (sqB n) rfl (by rw [intsL_len]; omega) ?_ ?_ ?_⟩
    · intro m a ea S s
      have hm : m < (n - 2).toNat := by
        have := (List.getElem?_eq_some_iff.mp ea).1
        rwa [intsL_len] at this
      rw [intsL_at hm] at ea
      cases ea
      k_updF
      refine ⟨.inl ⟨by omega, by omega⟩, fun hq => ?_, fun hq => ?_⟩
      · refine ⟨by omega, gEq_i ?_⟩
        k_updF
        simp only [sqB] at s
        rw [hq] at s
        exact s
      · simp only [sqB] at s
        rw [hq] at s
        exact s
    · intro m a ea _
      have hm : m < (n - 2).toNat := by
        have := (List.getElem?_eq_some_iff.mp ea).1
        rwa [intsL_len] at this
      rw [intsL_at hm] at ea
      cases ea
      refine ⟨rfl, fun S s => ?_⟩
      k_updF
      exact s
    · k_updF
      rw [List.length_map]
      refine gEq_i ?_
      rw [id_eq, pr_fin n (by omega) hn]
      exact ⟨.inr rfl, rfl⟩
  · have h1 : ¬ 1 < n := by simpa using h
    have : prB n = false := by
      unfold prB firstL
      simp only [List.contains_eq_mem, List.mem_cons, List.not_mem_nil, or_false, decide_eq_false_iff_not]
      omega
    rw [this]
    k_keys
def lnD : PyData → PyData
  | .str w => .int (lnV w)
  | _ => .none
theorem lr_spec {p k : Int} {w : Str} (hw : w.length ≤ 640) : (rwV p k w = .none ∧ ¬ ((((Txt.split w ",").map lnV).length : Int) = k ∧ ∀ i ∈ (Txt.split w ",").map lnV, 0 ≤ i ∧ i < p)) ∨ (rwV p k w = rowD ((Txt.split w ",").map lnV) ∧ (((Txt.split w ",").map lnV).length : Int) = k ∧ ∀ i ∈ (Txt.split w ",").map lnV, 0 ≤ i ∧ i < p) := by
  have hp : ∀ x ∈ Txt.split w ",", x.length ≤ 640 := fun x hx => Nat.le_trans (part_short hx) hw
  unfold rwV
  generalize Txt.split w "," = ws at hp
  have nb : ∀ x ∈ ws, (nbV p x = .none ∧ ¬ (0 ≤ lnV x ∧ lnV x < p)) ∨ (nbV p x = .int (lnV x) ∧ 0 ≤ lnV x ∧ lnV x < p) := fun x hx => by
    unfold nbV
    rcases lnV_nw (hp x hx) with ⟨e1, e2⟩ | ⟨n, e1, e2⟩
    · rw [e1, e2]; exact .inl ⟨rfl, by omega⟩
    · rw [e1, e2]
      by_cases h : p ≤ n
      · exact .inl ⟨if_pos h, by omega⟩
      · exact .inr ⟨if_neg h, by omega, by omega⟩
  unfold nbsV
  rw [List.length_map]
  by_cases hl : (ws.length : Int) = k
  · rw [decide_eq_true hl, Bool.true_and]
    cases ha : (ws.map (nbV p)).any isNon with
    | true =>
      refine .inl ⟨rfl, fun ⟨_, h⟩ => ?_⟩
      obtain ⟨d, hd, hn⟩ := List.any_eq_true.mp ha
      obtain ⟨x, hx, rfl⟩ := List.mem_map.mp hd
      rcases nb x hx with ⟨_, h2⟩ | ⟨e, _⟩
      · exact h2 (h _ (List.mem_map_of_mem hx))
      · rw [e] at hn; cases hn
    | false =>
      refine .inr ⟨?_, hl, fun i hi => ?_⟩
      · show PyData.tuple _ = _
        unfold rowD
        rw [List.map_map]
        congr 1
        refine List.map_congr_left fun x hx => ?_
        rcases nb x hx with ⟨e, _⟩ | ⟨e, _⟩
        · have := List.any_eq_false.mp ha _ (List.mem_map_of_mem hx)
          rw [e] at this
          exact absurd rfl this
        · rw [e]; rfl
      · obtain ⟨x, hx, rfl⟩ := List.mem_map.mp hi
        rcases nb x hx with ⟨e, _⟩ | ⟨_, h2⟩
        · have := List.any_eq_false.mp ha _ (List.mem_map_of_mem hx)
          rw [e] at this
          exact absurd rfl this
        · exact h2
  · rw [decide_eq_false hl]
    exact .inl ⟨rfl, fun h => hl h.1⟩
theorem go_law_read_row (h : sp_law_read_row K vs H Q E) : t_law_read_row K { nx := fun _ H' => Q .non H', rt := Q } (L2.start ["p", "k", "word", "row", "one"] vs) H := by
  refine sp_wp h (fun E => inferInstance) ?_
  rintro C ks S Z hK hfr hZ ⟨p, k, w, rfl, hw, rfl, rfl⟩
  have big := sl_big
  have hl := split_le w ","
  have hpos := split_pos w ","
  k_updF
  refine ⟨by decide +kernel, by omega, _, rfl, gLc_map lnD rfl (by rw [List.length_map]; omega) (fun ρ S s => s) ?_ ?_⟩
  · intro n a ea
    rw [List.getElem?_map] at ea
    obtain ⟨x, hx, rfl⟩ := Option.map_eq_some_iff.mp ea
    refine ⟨rfl, fun S s => ?_⟩
    k_updF
    exact gCall_of (A := A_ln) rfl ⟨x, rfl, Nat.le_trans (part_short (lof hx)) hw, rfl, rfl⟩ (imp_eq s)
  · k_updF
    intro l
    rw [List.map_map]
    have em : (Txt.split w ",").map (lnD ∘ PyData.str) = ((Txt.split w ",").map lnV).map .int := by rw [List.map_map]; rfl
    rw [em]
    have sp := lr_spec (p := p) (k := k) hw
    generalize hns : (Txt.split w ",").map lnV = ns at sp ⊢
    have hn0 : 0 < ns.length := by rw [← hns, List.length_map]; omega
    rw [List.length_map]
    refine gEq_i ?_
    k_updF
    have bad : rwV p k w = .none → gLstK [] fun z => RtK C (fun x => x = .new (lrV p k w)) z := fun e => by
      refine gLstK_of (ds := []) rfl (Nat.zero_le _) ⟨.inr rfl, ?_⟩
      unfold lrV; rw [e]
    refine ⟨fun h => ?_, fun h => ?_⟩
    · have h1 : ¬ (ns.length : Int) = k := by simpa using h
      rcases sp with ⟨e, _⟩ | ⟨_, e, _⟩
      · exact bad e
      · exact absurd e h1
    · have h1 : (ns.length : Int) = k := by simpa using h
      refine gNums_of (ns := ns) rfl ⟨hn0, fun m m1 m2 => ?_⟩
      k_updF
      refine ⟨fun h2 => ?_, fun h2 => ?_⟩
      · have h2 : m < 0 := by simpa using h2
        rcases sp with ⟨e, _⟩ | ⟨_, _, e⟩
        · exact bad e
        · have := e m m1; omega
      · have h2 : ¬ m < 0 := by simpa using h2
        refine gNums_of (ns := ns) rfl ⟨hn0, fun M M1 M2 => ?_⟩
        k_updF
        refine ⟨fun h3 => ?_, fun h3 => ?_⟩
        · have h3 : p ≤ M := by simpa using h3
          rcases sp with ⟨e, _⟩ | ⟨_, _, e⟩
          · exact bad e
          · have := e M M1; omega
        · have h3 : ¬ p ≤ M := by simpa using h3
          rcases sp with ⟨_, e⟩ | ⟨e, _, _⟩
          · exact absurd ⟨h1, fun i hi => ⟨by have := m2 i hi; omega, by have := M2 i hi; omega⟩⟩ e
          · refine gLstK_of (ds := [rowD ns]) rfl (by show 1 ≤ _; omega) ⟨.inr ?_, ?_⟩
            · show nlL [rowD ns] = true
              have : nl (rowD ns) = true := nl_t fun d hd => by
                obtain ⟨i, _, rfl⟩ := List.mem_map.mp hd
                rfl
              simp only [nlL, nl.nlAll, this]
              rfl
            · unfold lrV
              rw [e]
              rfl
end
end Mh
namespace Mh
open PySem PySem.Spec PyProof.Rows L2 TL
local macro_rules | `(tactic| k_updF) => `(tactic| try simp only [gV_some, gI0_i, gII_i, gAdd_i, gAdd_s, gAdd_t, gAdd_nn, gAdd_on, gAdd_no, gMul_i, gNon_d, gNeg_i, gPart_i, gSl_s, gSl_t, gSl_o, gSl_n, gSl_l, gLen_s, gLen_t, gLen_l, gLen_o, gLen_n, gInt_i, gStr_i, gTupC_n, gTupC_o, gTupC_l, gTupC_t, gII2_i, gB_b, gTr_b, gIf_t, gIf_f, gTx_s, gSplit_s, gRng1_i, gRng2_i, gR1_i, gOwn_o, gItem_d, gItem_n, gAug_i, gInt1_i, gPair_t, gFmt_s, gFmt_i, gJn_s, NxA, RtK, rdK, List.length_cons, List.length_nil, Nat.reduceAdd, Nat.reduceSub, Nat.reduceLT, List.replicate_succ, List.replicate_zero, List.cons_append, List.nil_append, List.append_nil, List.getElem?_cons_zero, List.getElem?_cons_succ, List.set_cons_zero, List.set_cons_succ, true_and, and_true, isNon_n, isNon_i, isNon_b, isNon_s, isNon_t, isNon_l, isNon_d, Bool.not_true, Bool.not_false, id_eq, lcR, notOwn, gIsi_int_none, gIsi_int_bool, gIsi_int_int, gIsi_int_str, gIsi_int_tuple, gIsi_int_list, gIsi_int_own, gIsi_int_new, gIsi_bool_none, gIsi_bool_bool, gIsi_bool_int, gIsi_bool_str, gIsi_bool_tuple, gIsi_bool_list, gIsi_bool_own, gIsi_bool_new, gIsi_tuple_none, gIsi_tuple_bool, gIsi_tuple_int, gIsi_tuple_str, gIsi_tuple_tuple, gIsi_tuple_list, gIsi_tuple_own, gIsi_tuple_new, gIsi_str_none, gIsi_str_bool, gIsi_str_int, gIsi_str_str, gIsi_str_tuple, gIsi_str_list, gIsi_str_own, gIsi_str_new, gIsi_list_none, gIsi_list_bool, gIsi_list_int, gIsi_list_str, gIsi_list_tuple, gIsi_list_list, gIsi_list_own, gIsi_list_new])
local macro_rules | `(tactic| k_keys) => `(tactic| first | exact ⟨.inr rfl, rfl⟩ | exact .inr rfl | rfl | trivial | (refine ⟨.inr ?_, rfl⟩; assumption) | (refine .inr ?_; assumption))

/-! ### k79: _law_read -/
def Hk31 (z : Str) : Prop := ∀ a b c, spS z = [a, b, c] → a = "book" → ∀ n : Int, nwV b = .int n → n ≤ 31
theorem Hk31.le {z : Str} (h : Hk31 z) : HkP z := fun a b c e ha n hn => by have := h a b c e ha n hn; omega
def ldV (z0 : Str) (ls : List Str) : List PyData := match hdV z0 with
  | .tuple [.int p, .int k] => if (hrV p k ls).length < ls.length then [.int ((1 + (hrV p k ls).length : Nat) : Int)] else if ls = [] then [.int 1] else [.int p, .int k, .tuple (hrV p k ls)]
  | _ => [.int 0]
def A_lrd : At := fun ks S Z => ∃ (text z0 : Str) (ls : List Str), ks = [.dat (.str text)] ∧ text.length ≤ 100000 ∧ Txt.split text "\n" = z0 :: ls ∧ Hk31 z0 ∧ (∀ z ∈ z0 :: ls, z.length ≤ 640) ∧ ls.length ≤ 10000 ∧
  S = (fun x => x = .new (ldV z0 ls)) ∧ Z = noZ
abbrev sp_law_read (K : PySem.W.Frag) : Sp := SpP K A_lrd

abbrev t_law_read (K : PySem.W.Frag) : TS := (tSeq (tAsg (tM1 rSplit (tVar 0) (tC (.str "\n"))) (gName 1))
  (tSeq (tAsg (tM1 rSplit (tOp (rIx K) (tVar 1) (tC (.int 0))) (tC (.str " "))) (gName 2))
  (tSeq (tIfS (tOr (tTest (tOp (rNeP K) (tCB (rLenP K) (tCons (tVar 2) tNil)) (tC (.int 3)))) (tTest (tOp (rNeP K) (tOp (rIx K) (tVar 2) (tC (.int 0))) (tC (.str "book"))))) (tRet (tLst (tCons (tC (.int 0)) tNil))) tNext)
  (tSeq (tAsg (tCall (sp_law_number K) [] E0 (tCons (tOp (rIx K) (tVar 2) (tC (.int 1))) tNil)) (gName 3))
  (tSeq (tAsg (tCall (sp_law_number K) [] E0 (tCons (tOp (rIx K) (tVar 2) (tC (.int 2))) tNil)) (gName 4))
  (tSeq (tIfS (tOr (tTest (tOp rLtI (tVar 4) (tC (.int 1)))) (tOr (tTest (tOp rGtI (tVar 3) (tC (.int 31)))) (tNot (tTru K (tCall (sp_law_prime K) [] E0 (tCons (tVar 3) tNil)))))) (tRet (tLst (tCons (tC (.int 0)) tNil))) tNext)
  (tSeq (tAsg (tLst tNil) (gName 5))
  (tSeq (tFor (iRng2 (tCons (tC (.int 1)) (tCons (tCB (rLenP K) (tCons (tVar 1) tNil)) tNil))) (gName 6) (tSeq (tAsg (tM1 rSplit (tOp (rIx K) (tVar 1) (tVar 6)) (tC (.str " "))) (gName 2))
  (tSeq (tIfS (tTest (tOp (rNeP K) (tOp (rIx K) (tVar 2) (tC (.int 0))) (tC (.str "hall")))) (tRet (tLst (tCons (tVar 6) tNil))) tNext)
  (tSeq (tAsg (tLst tNil) (gName 7))
  (tSeq (tFor (iAny K (tSl (rSlP K) (tVar 2) (tPart (tC (.int 1))) tNoPart)) (gName 8) (tSeq (tAsg (tCall (sp_law_read_row K) [] E0 (tCons (tVar 3) (tCons (tVar 4) (tCons (tVar 8) tNil)))) (gName 9))
  (tSeq (tIfS (tTest (tOp (rEqP K) (tVar 9) (tLst tNil))) (tRet (tLst (tCons (tVar 6) tNil))) tNext)
  (tDrop (tBM K "list" rAppend (tVar 7) (tCons (tOp (rIx K) (tVar 9) (tC (.int 0))) tNil))))))
  (tDrop (tBM K "list" rAppend (tVar 5) (tCons (tCB (rTupP K) (tCons (tVar 7) tNil)) tNil))))))))
  (tSeq (tIfS (tTest (tOp (rEqP K) (tCB (rLenP K) (tCons (tVar 5) tNil)) (tC (.int 0)))) (tRet (tLst (tCons (tC (.int 1)) tNil))) tNext)
  (tRet (tLst (tCons (tVar 3) (tCons (tVar 4) (tCons (tCB (rTupP K) (tCons (tVar 5) tNil)) tNil))))))))))))))

theorem lfin {C : Ct} {d : PyData} {ds : List PyData} (h : nl d = true) (e : [d] = ds) : gLstK [.dat d] fun z => RtK C (fun x => x = .new ds) z :=
  gLstK_of (ds := [d]) rfl (by have := sl_big; show 1 ≤ _; omega) ⟨.inr (by simp [nlL, nl.nlAll, h]), by rw [e]⟩
theorem lrV_or (p k : Int) (w : Str) : (isNon (rwV p k w) = true ∧ lrV p k w = []) ∨ (isNon (rwV p k w) = false ∧ lrV p k w = [rwV p k w] ∧ Sh 1 (rwV p k w) ∧ nl (rwV p k w) = true) := by
  have h1 : Sh 1 (rwV p k w) := nbsV_sh _ _ _
  have h2 : nl (rwV p k w) = true := nbsV_nl _ _ _
  unfold lrV
  rcases nbsV_or (Txt.split w ",") k p with e | ⟨e, _⟩
  · left; rw [show rwV p k w = _ from e]; exact ⟨rfl, rfl⟩
  · right; rw [show rwV p k w = _ from e] at h1 h2 ⊢; exact ⟨rfl, rfl, h1, h2⟩
theorem hrV_take {p k : Int} {ls : List Str} {n : Nat} {z : Str} (hz : ls[n]? = some z) (hp : ∀ d ∈ (ls.map (rrV p k)).take n, (!isNon d) = true) (hb : isNon (rrV p k z) = true) : (hrV p k ls).length = n ∧ n < ls.length := by
  have hn := (List.getElem?_eq_some_iff.mp hz).1
  have ez : (ls.map (rrV p k))[n]? = some (rrV p k z) := by rw [List.getElem?_map, hz]; rfl
  unfold hrV
  rw [takeW_stop (f := fun d => !isNon d) ez (by rw [hb]; rfl) hp, List.length_take, List.length_map]
  exact ⟨by omega, hn⟩
theorem hrV_all {p k : Int} {ls : List Str} (hp : ∀ d ∈ ls.map (rrV p k), (!isNon d) = true) : hrV p k ls = ls.map (rrV p k) := takeW_all hp
section
variable {K : PySem.W.Frag} {vs : List V} {H : Hp} {Q : VK} {E : XK}
theorem go_law_read (h : sp_law_read K vs H Q E) : t_law_read K { nx := fun _ H' => Q .non H', rt := Q } (L2.start ["text", "lines", "words", "p", "k", "halls", "at", "rows", "word", "row"] vs) H := by
  refine sp_wp h (fun E => inferInstance) ?_
  rintro C ks S Z hK hfr hZ ⟨text, z0, ls, rfl, ht, hs, hh, hz, hl, rfl, rfl⟩
  have big := sl_big
  have hz0 := hz z0 List.mem_cons_self
  have hlm : ((z0 :: ls).map PyData.str).length = ls.length + 1 := by rw [List.length_map, List.length_cons]
  k_updF
  refine ⟨by decide +kernel, by omega, fun l1 => ?_⟩
  rw [hs]
  refine gIx_of (ds := (z0 :: ls).map PyData.str) (d := .str z0) rfl (at_nat (n := 0) rfl) ?_
  k_updF
  refine ⟨by decide +kernel, by omega, fun l2 => ?_⟩
  have bad : hdV z0 = .none → gLstK [.dat (.int 0)] fun z => RtK C (fun x => x = .new (ldV z0 ls)) z := fun e => lfin rfl (by unfold ldV; rw [e])
  rw [List.length_map]
  by_cases h3 : (spS z0).length ≠ 3
  · refine gEq_i ?_
    rw [decide_eq_false (show ¬ (((spS z0).length : Int) = 3) by omega)]
    k_updF
    exact bad (hdV_ne h3)
  have h3 : (spS z0).length = 3 := by omega
  obtain ⟨a, b, c, hws⟩ : ∃ a b c, spS z0 = [a, b, c] := by
    match hw : spS z0, h3 with
    | [a, b, c], _ => exact ⟨a, b, c, rfl⟩
  rw [show Txt.split z0 " " = [a, b, c] from hws]
  have hlb : b.length ≤ 640 := Nat.le_trans (part_short (x := z0) (y := " ") (by rw [show Txt.split z0 " " = _ from hws]; simp)) hz0
  have hlc : c.length ≤ 640 := Nat.le_trans (part_short (x := z0) (y := " ") (by rw [show Txt.split z0 " " = _ from hws]; simp)) hz0
  refine gEq_i ?_
  show gB (.dat (.bool false)) _
  k_updF
  refine gIx_of (ds := [PyData.str a, .str b, .str c]) (d := .str a) rfl (at_nat (n := 0) rfl) ?_
  refine gEq_s ?_
  have hd0 : hdV z0 = (if a = "book" then (match nwV b, n1V c with
    | .int p, .int k => if prB p then .tuple [.int p, .int k] else .none
    | _, _ => .none) else .none) := by unfold hdV; rw [hws] <;> rfl
  by_cases ha : ¬ a = "book"
  · rw [decide_eq_false ha]
    k_updF
    exact bad (by rw [hd0, if_neg ha])
  have ha : a = "book" := Classical.not_not.mp ha
  rw [decide_eq_true ha]
  rw [if_pos ha] at hd0
  k_updF
  refine gIx_of (ds := [PyData.str a, .str b, .str c]) (d := .str b) rfl (at_nat (n := 1) rfl) ?_
  refine gCall_of (A := A_ln) rfl ⟨b, rfl, hlb, rfl, rfl⟩ (imp_eq ?_)
  k_updF
  refine gIx_of (ds := [PyData.str a, .str b, .str c]) (d := .str c) rfl (at_nat (n := 2) rfl) ?_
  refine gCall_of (A := A_ln) rfl ⟨c, rfl, hlc, rfl, rfl⟩ (imp_eq ?_)
  k_updF
  have n1c : (lnV c < 1 ∧ n1V c = .none) ∨ (1 ≤ lnV c ∧ n1V c = .int (lnV c)) := by
    unfold n1V
    rcases lnV_nw hlc with ⟨e1, e2⟩ | ⟨n, e1, e2⟩
    · rw [e1, e2]; exact .inl ⟨by omega, rfl⟩
    · rw [e1, e2]
      by_cases h0 : n = 0
      · subst h0; exact .inl ⟨by omega, rfl⟩
      · refine .inr ⟨by omega, ?_⟩
        split
        · rename_i h2
          exact absurd (by simpa using h2) h0
        · rfl
  refine ⟨fun h => ?_, fun h => ?_⟩
  · have h1 : lnV c < 1 := by simpa using h
    refine bad ?_
    rcases n1c with ⟨_, e⟩ | ⟨e, _⟩
    · rw [hd0, e]
      cases nwV b <;> rfl
    · omega
  have h1 : ¬ lnV c < 1 := by simpa using h
  have ec : n1V c = .int (lnV c) := by rcases n1c with ⟨e, _⟩ | ⟨_, e⟩; exact absurd e h1; exact e
  have pb31 : lnV b ≤ 31 := by
    rcases lnV_nw hlb with ⟨_, e2⟩ | ⟨n, e1, e2⟩
    · rw [e2]; decide
    · rw [e2]; exact hh a b c hws ha n e1
  refine ⟨fun h => absurd (by simpa using h) (show ¬ 31 < lnV b by omega), fun _ => ?_⟩
  refine gCall_of (A := A_lp) rfl ⟨lnV b, rfl, pb31, rfl, rfl⟩ (imp_eq ?_)
  k_updF
  have hd1 : hdV z0 = if prB (lnV b) then .tuple [.int (lnV b), .int (lnV c)] else .none := by
    rw [hd0, ec]
    rcases lnV_nw hlb with ⟨e1, e2⟩ | ⟨n, e1, e2⟩
    · rw [e1, e2]; rfl
    · rw [e1, e2]
  refine ⟨fun h => bad (by rw [hd1, if_neg (by simpa using h)]), fun h => ?_⟩
  have hpr : prB (lnV b) = true := by simpa using h
  rw [if_pos hpr] at hd1
  generalize lnV b = p at *
  generalize lnV c = k at *
  have ld : ldV z0 ls = if (hrV p k ls).length < ls.length then [.int ((1 + (hrV p k ls).length : Nat) : Int)] else if ls = [] then [.int 1] else [.int p, .int k, .tuple (hrV p k ls)] := by unfold ldV; rw [hd1]
  have stop : ∀ {n : Nat} {z : Str}, ls[n]? = some z → (∀ d ∈ (ls.map (rrV p k)).take n, (!isNon d) = true) → isNon (rrV p k z) = true → gLstK [.dat (.int (1 + (n : Int)))] fun z => RtK C (fun x => x = .new (ldV z0 ls)) z := fun {n z} e1 e2 e3 => by
    obtain ⟨g1, g2⟩ := hrV_take e1 e2 e3
    refine lfin rfl ?_
    rw [ld, if_pos (by omega), g1]
    rw [Int.natCast_add]
    rfl
  refine gLstK_of (ds := []) rfl (Nat.zero_le _) ?_
  k_updF
  intro l3
  rw [hlm]
  refine ⟨by decide, by decide, by omega, by omega, ?_⟩
  refine ⟨fun n ρ => ∃ x2 x6 x7 x8 x9, ρ = [.dat (.str text), .own l1 ((z0 :: ls).map .str), x2, .dat (.int p), .dat (.int k), .own l3 ((ls.map (rrV p k)).take n), x6, x7, x8, x9] ∧ ∀ d ∈ (ls.map (rrV p k)).take n, (!isNon d) = true, ⟨_, _, _, _, _, rfl, by simp⟩, ?_, ?_⟩
  · rintro n _ hn ⟨x2, x6, x7, x8, x9, rfl, hp⟩
    have hn2 : n < ls.length := by omega
    obtain ⟨z, hz1⟩ : ∃ z, ls[n]? = some z := ⟨_, List.getElem?_eq_getElem hn2⟩
    have hzz := hz z (List.mem_cons_of_mem _ (lof hz1))
    have ez : (ls.map (rrV p k))[n]? = some (rrV p k z) := by rw [List.getElem?_map, hz1]; rfl
    k_updF
    refine gIx_of (ds := (z0 :: ls).map PyData.str) (d := .str z) rfl ?_ ?_
    · rw [show (1 : Int) + (n : Int) = ((n + 1 : Nat) : Int) by omega]
      exact at_nat (by rw [List.map_cons, List.getElem?_cons_succ, List.getElem?_map, hz1]; rfl)
    k_updF
    refine ⟨by decide +kernel, by omega, fun l4 => ?_⟩
    have hsl := sp_free z
    have hs1 := split_pos z " "
    cases hw2 : spS z with
    | nil => rw [show Txt.split z " " = [] from hw2] at hs1; cases hs1
    | cons a2 ws =>
    rw [show Txt.split z " " = a2 :: ws from hw2]
    rw [hw2, List.length_cons] at hsl
    have hr0 : rrV p k z = (if a2 = "hall" then (if (ws.map (rwV p k)).any isNon then .none else .tuple (ws.map (rwV p k))) else .none) := by unfold rrV; rw [hw2]
    refine gIx_of (ds := (a2 :: ws).map PyData.str) (d := .str a2) rfl (at_nat (n := 0) rfl) ?_
    refine gEq_s ?_
    by_cases ha2 : ¬ a2 = "hall"
    · rw [decide_eq_false ha2]
      k_updF
      exact stop hz1 hp (by rw [hr0, if_neg ha2]; rfl)
    have ha2 : a2 = "hall" := Classical.not_not.mp ha2
    rw [decide_eq_true ha2]
    rw [if_pos ha2] at hr0
    k_updF
    refine gLstK_of (ds := []) rfl (Nat.zero_le _) ?_
    k_updF
    intro l5
    rw [List.map_cons, cut_tail]
    refine ⟨_, rfl, fun m ρ => ∃ x8 x9, ρ = [.dat (.str text), .own l1 ((z0 :: ls).map .str), .own l4 ((PyData.str a2) :: ws.map .str), .dat (.int p), .dat (.int k), .own l3 ((ls.map (rrV p k)).take n), .dat (.int (1 + (n : Int))), .own l5 ((ws.map (rwV p k)).take m), x8, x9] ∧ ((ws.map (rwV p k)).take m).any isNon = false, ⟨_, _, rfl, rfl⟩, ?_, ?_⟩
    · rintro v d' m aa _ ea ⟨x8, x9, rfl, hq⟩
      rw [List.getElem?_map] at ea
      obtain ⟨w, hw, rfl⟩ := Option.map_eq_some_iff.mp ea
      have hwl : w.length ≤ 640 := Nat.le_trans (part_short (x := z) (y := " ") (by rw [show Txt.split z " " = _ from hw2]; exact List.mem_cons_of_mem _ (lof hw))) hzz
      have ew : (ws.map (rwV p k))[m]? = some (rwV p k w) := by rw [List.getElem?_map, hw]; rfl
      have hm := (List.getElem?_eq_some_iff.mp hw).1
      k_updF
      refine gCall_of (A := A_lrr) rfl ⟨p, k, w, rfl, hwl, rfl, rfl⟩ (imp_eq ?_)
      k_updF
      intro l6
      rcases lrV_or p k w with ⟨e1, e2⟩ | ⟨e1, e2, e3, e4⟩
      · rw [e2]
        refine gLstK_of (ds := []) rfl (Nat.zero_le _) ?_
        refine gEq_d rfl rfl rfl rfl ?_
        rw [show PyData.eqv (.list []) (.list []) = true from rfl]
        k_updF
        refine stop hz1 hp ?_
        rw [hr0, if_pos (List.any_eq_true.mpr ⟨_, lof ew, e1⟩)]
        rfl
      · rw [e2]
        refine gLstK_of (ds := []) rfl (Nat.zero_le _) ?_
        refine gEq_d rfl rfl (Sh.l (n := 1) fun d hd => by rw [List.mem_singleton.mp hd]; exact e3).shaped rfl ?_
        rw [show PyData.eqv (.list [rwV p k w]) (.list []) = false from by simp [PyData.eqv, PyData.eqvAll]]
        k_updF
        refine gIx_of (ds := [rwV p k w]) (d := rwV p k w) rfl (at_nat (n := 0) rfl) ?_
        k_updF
        refine ⟨by rw [List.length_take, List.length_map]; omega, .dat (.str w), .own l6 [rwV p k w], ?_, ?_⟩
        · rw [take_succ_ofI ew]
        · rw [take_succ_ofI ew, List.any_append, hq]
          simp [e1]
    · rintro _ ⟨x8, x9, rfl, hq⟩
      rw [List.length_map] at hq ⊢
      have e : (ws.map (rwV p k)).take ws.length = ws.map (rwV p k) := List.take_of_length_le (by rw [List.length_map]; exact Nat.le_refl _)
      rw [e] at hq ⊢
      k_updF
      rw [hq, if_neg Bool.false_ne_true] at hr0
      refine ⟨by rw [List.length_take, List.length_map]; omega, .own l4 (PyData.str a2 :: ws.map .str), .dat (.int (1 + (n : Int))), .own l5 (ws.map (rwV p k)), x8, x9, ?_, ?_⟩
      · rw [take_succ_ofI ez, hr0]
      · rw [take_succ_ofI ez, hr0]
        intro d hd
        rcases List.mem_append.mp hd with hd | hd
        · exact hp d hd
        · rw [List.mem_singleton.mp hd]
          rfl
  · rintro _ ⟨x2, x6, x7, x8, x9, rfl, hp⟩
    have e1 : (((((ls.length + 1 : Nat) : Int)) - 1).toNat) = ls.length := by omega
    rw [e1] at hp ⊢
    have e : (ls.map (rrV p k)).take ls.length = ls.map (rrV p k) := List.take_of_length_le (by rw [List.length_map]; exact Nat.le_refl _)
    rw [e] at hp ⊢
    have eh := hrV_all hp
    k_updF
    rw [List.length_map]
    refine gEq_i ?_
    k_updF
    have ld2 : ldV z0 ls = if ls = [] then [.int 1] else [.int p, .int k, .tuple (hrV p k ls)] := by
      rw [ld, if_neg]
      rw [eh, List.length_map]
      omega
    refine ⟨fun h => ?_, fun h => ?_⟩
    · have h0 : ls = [] := List.length_eq_zero_iff.mp (by have : (ls.length : Int) = 0 := by simpa using h
                                                          omega)
      exact lfin rfl (by rw [ld2, if_pos h0])
    · have h0 : ls ≠ [] := fun e0 => by rw [e0] at h; simp at h
      refine gLstK_of (ds := [.int p, .int k, .tuple (ls.map (rrV p k))]) rfl (by show 3 ≤ _; omega) ⟨.inr ?_, ?_⟩
      · have := hrV_nl p k ls
        rw [eh] at this
        simp only [nlL, nl.nlAll, this]
        rfl
      · rw [ld2, if_neg h0, eh]
end
end Mh
namespace Mh
open PySem PySem.Spec PyProof.Rows L2 TL
local macro_rules | `(tactic| k_updF) => `(tactic| try simp only [gV_some, gI0_i, gII_i, gAdd_i, gAdd_s, gAdd_t, gAdd_nn, gAdd_on, gAdd_no, gMul_i, gNon_d, gNeg_i, gPart_i, gSl_s, gSl_t, gSl_o, gSl_n, gSl_l, gLen_s, gLen_t, gLen_l, gLen_o, gLen_n, gInt_i, gStr_i, gTupC_n, gTupC_o, gTupC_l, gTupC_t, gII2_i, gB_b, gTr_b, gIf_t, gIf_f, gTx_s, gSplit_s, gRng1_i, gRng2_i, gR1_i, gOwn_o, gItem_d, gItem_n, gAug_i, gInt1_i, gPair_t, gFmt_s, gFmt_i, gJn_s, NxA, RtK, rdK, List.length_cons, List.length_nil, Nat.reduceAdd, Nat.reduceSub, Nat.reduceLT, List.replicate_succ, List.replicate_zero, List.cons_append, List.nil_append, List.append_nil, List.getElem?_cons_zero, List.getElem?_cons_succ, List.set_cons_zero, List.set_cons_succ, true_and, and_true, isNon_n, isNon_i, isNon_b, isNon_s, isNon_t, isNon_l, isNon_d, Bool.not_true, Bool.not_false, id_eq, lcR, notOwn, gIsi_int_none, gIsi_int_bool, gIsi_int_int, gIsi_int_str, gIsi_int_tuple, gIsi_int_list, gIsi_int_own, gIsi_int_new, gIsi_bool_none, gIsi_bool_bool, gIsi_bool_int, gIsi_bool_str, gIsi_bool_tuple, gIsi_bool_list, gIsi_bool_own, gIsi_bool_new, gIsi_tuple_none, gIsi_tuple_bool, gIsi_tuple_int, gIsi_tuple_str, gIsi_tuple_tuple, gIsi_tuple_list, gIsi_tuple_own, gIsi_tuple_new, gIsi_str_none, gIsi_str_bool, gIsi_str_int, gIsi_str_str, gIsi_str_tuple, gIsi_str_list, gIsi_str_own, gIsi_str_new, gIsi_list_none, gIsi_list_bool, gIsi_list_int, gIsi_list_str, gIsi_list_tuple, gIsi_list_list, gIsi_list_own, gIsi_list_new])
local macro_rules | `(tactic| k_keys) => `(tactic| first | exact ⟨.inr rfl, rfl⟩ | exact .inr rfl | rfl | trivial | (refine ⟨.inr ?_, rfl⟩; assumption) | (refine .inr ?_; assumption))

/-! ### k79: lines and texts, plain -/
/-- pieces glued by a sign -/
def glue (c : Nat) : List (List Nat) → List Nat
  | [] => []
  | [p] => p
  | p :: q :: r => p ++ c :: glue c (q :: r)
theorem glue_cons (c : Nat) (p : List Nat) {r : List (List Nat)} (h : r ≠ []) : glue c (p :: r) = p ++ c :: glue c r := by
  cases r with
  | nil => exact absurd rfl h
  | cons q r => rfl
theorem app_uniq {c : Nat} : ∀ {p q : List Nat} {x y : List Nat}, c ∉ p → c ∉ q → p ++ c :: x = q ++ c :: y → p = q ∧ x = y
  | [], [], _, _, _, _, h => by
    simp at h
    exact ⟨rfl, h⟩
  | [], b :: q, _, _, _, h2, h => by
    simp at h
    exact absurd (by rw [← h.1]; exact List.mem_cons_self) h2
  | a :: p, [], _, _, h1, _, h => by
    simp at h
    exact absurd (by rw [h.1]; exact List.mem_cons_self) h1
  | a :: p, b :: q, _, _, h1, h2, h => by
    simp at h
    obtain ⟨e1, e2⟩ := app_uniq (fun z => h1 (List.mem_cons_of_mem _ z)) (fun z => h2 (List.mem_cons_of_mem _ z)) h.2
    exact ⟨by rw [h.1, e1], e2⟩
theorem app_no {c : Nat} {p q x : List Nat} (h : c ∉ q) (e : p ++ c :: x = q) : False := h (by rw [← e]; simp)
theorem glue_uniq {c : Nat} : ∀ {ps qs : List (List Nat)}, ps ≠ [] → qs ≠ [] → (∀ p ∈ ps, c ∉ p) → (∀ p ∈ qs, c ∉ p) → glue c ps = glue c qs → ps = qs
  | [], _, h, _, _, _, _ => absurd rfl h
  | _, [], _, h, _, _, _ => absurd rfl h
  | [p], [q], _, _, _, _, e => by
    have e : p = q := e
    rw [e]
  | [p], q :: q2 :: r, _, _, h1, _, e => (app_no (h1 p List.mem_cons_self) e.symm).elim
  | p :: p2 :: r, [q], _, _, _, h2, e => (app_no (h2 q List.mem_cons_self) e).elim
  | p :: p2 :: r, q :: q2 :: r2, _, _, h1, h2, e => by
    obtain ⟨e1, e2⟩ := app_uniq (h1 p List.mem_cons_self) (h2 q List.mem_cons_self) e
    rw [e1, glue_uniq (ps := p2 :: r) (qs := q2 :: r2) (by simp) (by simp) (fun x hx => h1 x (List.mem_cons_of_mem _ hx)) (fun x hx => h2 x (List.mem_cons_of_mem _ hx)) e2]
theorem tl_join {z : Str} {c : Nat} (hz : tl z = [c]) : ∀ zs : List Str, tl (Txt.join z zs) = glue c (zs.map tl) := by
  intro zs
  rw [show Txt.join z zs = Str.join z zs from StrLaws.glued_eq_join z zs]
  induction zs with
  | nil => rfl
  | cons a r ih =>
    cases r with
    | nil => rfl
    | cons b r =>
      show tl (a ++ z ++ Str.join z (b :: r)) = _
      rw [tl_append, tl_append, ih, hz]
      show tl a ++ [c] ++ _ = tl a ++ c :: _
      simp
theorem split_glue {c : Nat} {z : Str} (x : Str) (hz : z = ⟨#[c]⟩) : glue c ((Txt.split x z).map tl) = tl x := by
  subst hz
  rw [← tl_join (z := ⟨#[c]⟩) rfl]
  exact congrArg tl ((StrLaws.glued_eq_join _ _).trans (StrLaws.join_split x ⟨#[c]⟩))
theorem split_join {c : Nat} {z : Str} (hz : z = ⟨#[c]⟩) {zs : List Str} (h0 : zs ≠ []) (h : ∀ y ∈ zs, c ∉ tl y) : Txt.split (Txt.join z zs) z = zs := by
  have e1 := split_glue (Txt.join z zs) hz
  have hz2 : tl z = [c] := by rw [hz]
  rw [tl_join hz2] at e1
  have e2 := glue_uniq (c := c) (ps := (Txt.split (Txt.join z zs) z).map tl) (qs := zs.map tl) (fun e => by
    have := split_pos (Txt.join z zs) z
    rw [List.map_eq_nil_iff.mp e] at this
    cases this) (fun e => h0 (List.map_eq_nil_iff.mp e)) (fun p hp => by
    obtain ⟨y, hy, rfl⟩ := List.mem_map.mp hp
    subst hz
    exact StrLaws.split_free (Txt.join ⟨#[c]⟩ zs) c y hy) (fun p hp => by
    obtain ⟨y, hy, rfl⟩ := List.mem_map.mp hp
    exact h y hy) e1
  exact (List.map_inj_right (f := tl) fun a b e => ext_tl e).mp e2
theorem join_split' (x z : Str) : Txt.join z (Txt.split x z) = x := (StrLaws.glued_eq_join _ _).trans (StrLaws.join_split x z)
theorem nlS : ("\n" : Str) = ⟨#[10]⟩ := by decide +kernel
theorem spc : (" " : Str) = ⟨#[32]⟩ := by decide +kernel
theorem cma : ("," : Str) = ⟨#[44]⟩ := by decide +kernel
theorem glue_mem {c x : Nat} : ∀ {ps : List (List Nat)}, x ∈ glue c ps → x = c ∨ ∃ p ∈ ps, x ∈ p
  | [], h => by cases h
  | [p], h => .inr ⟨p, List.mem_cons_self, h⟩
  | p :: q :: r, h => by
    rcases List.mem_append.mp h with h | h
    · exact .inr ⟨p, List.mem_cons_self, h⟩
    · rcases List.mem_cons.mp h with h | h
      · exact .inl h
      · rcases glue_mem h with h | ⟨p', hp, h⟩
        · exact .inl h
        · exact .inr ⟨p', List.mem_cons_of_mem _ hp, h⟩
theorem glue_sub {c x : Nat} : ∀ {ps : List (List Nat)} {p : List Nat}, p ∈ ps → x ∈ p → x ∈ glue c ps
  | [q], p, hp, hx => by
    rw [List.mem_singleton.mp hp] at hx
    exact hx
  | q :: q2 :: r, p, hp, hx => by
    rcases List.mem_cons.mp hp with rfl | hp
    · exact List.mem_append_left _ hx
    · exact List.mem_append_right _ (List.mem_cons_of_mem _ (glue_sub hp hx))
/-! the lines that come up -/
def HkC (z : Str) : Prop := ∀ a b c, spS z = [a, b, c] → a = "book" → ∀ n : Int, nwV c = .int n → n ≤ 1000
def Lk (z : Str) : Prop := (∀ c ∈ tl z, c < 128 ∧ c ≠ 10) ∧ z.length ≤ 90 ∧ Hk31 z ∧ HkC z
def hkB (z : Str) : Bool := match Txt.split z " " with
  | [a, b, c] => !decide (a = "book") || ((match nwV b with
    | .int n => decide (n ≤ 31)
    | _ => true) && (match nwV c with
    | .int n => decide (n ≤ 1000)
    | _ => true))
  | _ => true
def LkB (z : Str) : Bool := (tl z).all (fun c => decide (c < 128) && !decide (c = 10)) && (decide (z.length ≤ 90) && hkB z)
theorem LkB_ok {z : Str} (h : LkB z = true) : Lk z := by
  unfold LkB at h
  simp only [Bool.and_eq_true, List.all_eq_true, decide_eq_true_eq, Bool.not_eq_true', decide_eq_false_iff_not] at h
  refine ⟨h.1, h.2.1, fun a b c e ha n hn => ?_, fun a b c e ha n hn => ?_⟩
  all_goals
    have h3 := h.2.2
    unfold hkB at h3
    rw [show Txt.split z " " = [a, b, c] from e] at h3
    dsimp only at h3
    rw [hn, decide_eq_true ha] at h3
    simp only [Bool.not_true, Bool.false_or, Bool.and_eq_true, decide_eq_true_eq] at h3
  · exact h3.1
  · exact h3.2
/-- no k within -/
def Ck (z : Str) : Prop := ∀ c ∈ tl z, c < 128 ∧ c ≠ 10 ∧ c ≠ 107
theorem Ck.no {z : Str} (h : Ck z) {a b c : Str} (e : spS z = [a, b, c]) (ha : a = "book") : False := by
  have e1 := split_glue z spc
  rw [show Txt.split z " " = [a, b, c] from e] at e1
  have : 107 ∈ tl z := by
    rw [← e1]
    refine glue_sub (p := tl a) (by simp) ?_
    rw [ha]
    decide +kernel
  exact absurd rfl (h _ this).2.2
theorem Ck.lk {z : Str} (h : Ck z) (hl : z.length ≤ 90) : Lk z := ⟨fun c hc => ⟨(h c hc).1, (h c hc).2.1⟩, hl, fun a b c e ha n hn => (h.no e ha).elim, fun a b c e ha n hn => (h.no e ha).elim⟩
theorem Ck.app {a b : Str} (h1 : Ck a) (h2 : Ck b) : Ck (a ++ b) := fun c hc => by
  rw [tl_append] at hc
  rcases List.mem_append.mp hc with hc | hc
  · exact h1 c hc
  · exact h2 c hc
theorem cut_sub_mem {z : Str} {lo hi : Option Int} {c : Nat} (h : c ∈ tl (cutS z lo hi)) : c ∈ tl z := by
  have : tl (cutS z lo hi) = (z.cps.toList.drop (HT.sIx z.length 0 lo)).take (HT.sIx z.length z.length hi - HT.sIx z.length 0 lo) := rfl
  rw [this] at h
  exact List.mem_of_mem_drop (List.mem_of_mem_take h)
theorem cut_len_le {z : Str} {lo hi : Option Int} : (cutS z lo hi).length ≤ z.length := by
  have : tl (cutS z lo hi) = (z.cps.toList.drop (HT.sIx z.length 0 lo)).take (HT.sIx z.length z.length hi - HT.sIx z.length 0 lo) := rfl
  rw [len_tl, this, List.length_take, List.length_drop]
  have : z.length = z.cps.toList.length := len_tl z
  omega
theorem Ck.cut {a : Str} {lo hi : Option Int} (h1 : Ck a) : Ck (cutS a lo hi) := fun c hc => h1 c (cut_sub_mem hc)
theorem Ck.rep {a : Str} (h1 : Ck a) : Ck (Txt.replace a "," ", ") := fun c hc => by
  rw [cma, StrLaws.replace_one, ← show Txt.join (", " : Str) (Txt.split a ⟨#[44]⟩) = Str.join (", " : Str) (Txt.split a ⟨#[44]⟩) from StrLaws.glued_eq_join _ _] at hc
  have key : ∀ zs : List Str, c ∈ tl (Txt.join (", " : Str) zs) → c = 44 ∨ c = 32 ∨ ∃ y ∈ zs, c ∈ tl y := by
    intro zs
    rw [show Txt.join (", " : Str) zs = Str.join (", " : Str) zs from StrLaws.glued_eq_join _ _]
    induction zs with
    | nil => intro h; cases h
    | cons x r ih =>
      cases r with
      | nil => exact fun h => .inr (.inr ⟨x, List.mem_cons_self, h⟩)
      | cons y r =>
        intro h
        have h : c ∈ tl (x ++ (", " : Str) ++ Str.join (", " : Str) (y :: r)) := h
        rw [tl_append, tl_append] at h
        rcases List.mem_append.mp h with h | h
        · rcases List.mem_append.mp h with h | h
          · exact .inr (.inr ⟨x, List.mem_cons_self, h⟩)
          · rw [show tl (", " : Str) = [44, 32] by decide +kernel] at h
            simp at h
            rcases h with h | h
            · exact .inl h
            · exact .inr (.inl h)
        · rcases ih h with h | h | ⟨y', hy, h⟩
          · exact .inl h
          · exact .inr (.inl h)
          · exact .inr (.inr ⟨y', List.mem_cons_of_mem _ hy, h⟩)
  rcases key _ hc with h | h | ⟨y, hy, h⟩
  · omega
  · omega
  · refine h1 c ?_
    rw [← split_glue a (z := ⟨#[44]⟩) rfl]
    exact glue_sub (List.mem_map_of_mem hy) h
/-- a row's text -/
def Rk (z : Str) : Prop := (∀ c ∈ tl z, c = 44 ∨ (48 ≤ c ∧ c ≤ 57)) ∧ z.length ≤ 11
theorem Rk.ck {z : Str} (h : Rk z) : Ck z := fun c hc => by
  rcases h.1 c hc with h | h <;> omega
theorem nT_ck {i : Int} (h : 0 ≤ i) : Ck (nT i) := fun c hc => by
  rw [nT_tl h] at hc
  have := numL_digits _ c hc
  omega
theorem nT_len2 {i : Int} (h0 : 0 ≤ i) (h1 : i < 100) : (nT i).length ≤ 2 := by
  rw [len_tl, nT_tl h0]
  exact numL_len (k := 2) (by decide) (by omega)
theorem nT_len1 {i : Int} (h0 : 0 ≤ i) (h1 : i < 10) : (nT i).length ≤ 1 := by
  rw [len_tl, nT_tl h0]
  exact numL_len (k := 1) (by decide) (by omega)
def primesL : List Int := [2, 3, 5, 7, 11, 13, 17, 19, 23, 29, 31]
def headB (p k : Int) : List Str :=
  let one := nT p
  let two := nT k
  [("book 4 " : Str) ++ two, ("book 1 " : Str) ++ two, ("book 0 " : Str) ++ two, ("book 9 " : Str) ++ two, ("book 25 " : Str) ++ two, ("book " : Str) ++ one ++ (" 0" : Str),
   ("book 0" : Str) ++ one ++ (" " : Str) ++ two, ("book " : Str) ++ one ++ (" 0" : Str) ++ two, ("Book " : Str) ++ one ++ (" " : Str) ++ two, ("book " : Str) ++ one,
   ("book " : Str) ++ one ++ (" " : Str) ++ two ++ (" " : Str), ("book  " : Str) ++ one ++ (" " : Str) ++ two, (" book " : Str) ++ one ++ (" " : Str) ++ two, ("" : Str), ("hall" : Str),
   ("book " : Str) ++ one ++ (" " : Str) ++ two ++ (" 1" : Str), ("book -" : Str) ++ one ++ (" " : Str) ++ two, ("book " : Str) ++ one ++ ("," : Str) ++ two, ("book 31 " : Str) ++ two,
   ("book 2 " : Str) ++ two, ("book " : Str) ++ one ++ (" -1" : Str), ("book\t" : Str) ++ one ++ (" " : Str) ++ two, ("book " : Str) ++ one ++ (" +" : Str) ++ two, ("book" : Str)]
def headG (p k : Int) : Str := ("book " : Str) ++ nT p ++ (" " : Str) ++ nT k
theorem head_all : ∀ p ∈ primesL, ∀ k ∈ [(1 : Int), 2, 3, 4], LkB (headG p k) = true ∧ (headB p k).all LkB = true := by decide +kernel
end Mh
namespace Mh
open PySem PySem.Spec PyProof.Rows L2 TL
/-! ### defs with the box that take lists too -/
def spL (K : PySem.W.Frag) (A : Addr → At) : Sp := fun vs H Q E => ∃ b g c, SpF K (BF b g c) (BJ b g c) false (A b) vs H Q E
section
variable {K : PySem.W.Frag} {E : XK} {C : Ct} {σ : L2.St} {H : Hp} {ρ : List Kd} {al : TA} {S : Kd → Prop} {b : Addr} {N : List Str} {vs : List V} {Q : VK} {t : TS} {fw : WSf}
theorem e_callL {A : Addr → At} {E : XK} {PA : List Kd → Prop} (hb : InB C b) (ha : EA C al ρ PA) (hA : ∀ ks, PA ks → ∃ ks' S', ArgsK false ks ks' ∧ A b ks' S' noZ ∧ ∀ k, S' k → S k) : EB C (tCall (spL C.K A) [] E al) ρ S := by
  obtain ⟨g, c, hF, hJ⟩ := hb.ex
  exact e_callM ha (.inl ⟨rfl, rfl⟩) (fun vs H Q h => ⟨b, g, c, by rw [← hF, ← hJ]; exact h⟩) hA
def gCallL (C : Ct) (A : Addr → At) (ks : List Kd) (S : Kd → Prop) : Prop := ∃ b, InB C b ∧ ∃ ks' S', ArgsK false ks ks' ∧ A b ks' S' noZ ∧ ∀ k, S' k → S k
instance {A : Addr → At} {f : Ct → List Kd → (List Kd → Prop) → Prop} [bb : WA K E al f] : WE K E (tCall (spL K A) [] E0 al) (fun C ρ S => f C ρ fun ks => gCallL C A ks S) := ⟨fun hK hE h => fun σ H rp Q q => by
  subst hK
  refine bb.ok rfl hE h σ H rp _ fun ks vs H1 s1 r1 o1 => ?_
  obtain ⟨b, hb, ks', S', h1, h2, h3⟩ := s1
  have one : A1 _ (fun _ H' Q => H' = H → Q vs H1) _ ks := fun σ' H' r' Q' q' e => by
    subst e
    exact q' ks vs H1 rfl r1 o1
  exact e_callL (E := E0) hb one (fun ks2 e => by
    subst e
    exact ⟨ks', S', h1, h2, h3⟩) σ H rp Q q rfl⟩
theorem sl_wp {A : Addr → At} (q : spL K A vs H Q E) (w : ∀ E, WS K E t fw) (h : ∀ (C : Ct) b ks S Z, C.K = K → C.fr = false → C.Z = Z → InB C b → A b ks S Z → fw C (slots N ks) { rt := S, nx := fun _ => S (.dat .none) }) :
    t { nx := fun _ H' => Q .non H', rt := Q } (L2.start N vs) H := by
  obtain ⟨b, g, c, q⟩ := q
  exact sp_body (fun H E ks S Z a n hn => (w E).ok rfl rfl (h ⟨K, BF b g c, BJ b g c, H, false, [], E, Z⟩ b ks S Z rfl rfl rfl ⟨g, c, rfl, rfl⟩ a)) q
theorem spL_len {K : PySem.W.Frag} {A : Addr → At} {vs : List V} {H : Hp} {Q : VK} {E : XK} {n : Nat} (hA : ∀ b ks S Z, A b ks S Z → ks.length = n) (h : spL K A vs H Q E) : vs.length = n := by
  obtain ⟨b, g, c, h⟩ := h
  exact sp_len (hA b) h
theorem a_bxF {b : Addr} : ArgK false (bx b) (bx b) := .k (.inl rfl)
/-- a draw -/
theorem gDraw {m : Int} (ib : InB C b) (h0 : 0 < m) (h1 : m < 1073741824) (s : ∀ d : Int, 0 ≤ d → d < m → S (.dat (.int d))) : gCallB C A_draw [bx b, .dat (.int m)] S :=
  ⟨b, ib, [bx b, .dat (.int m)], _, .cons a_bx (.cons (.dat fun _ => rfl) .nil), ⟨m, h0, h1, rfl, rfl, rfl⟩, fun k ⟨d, d0, d1, e⟩ => e ▸ s d d0 d1⟩
theorem gCallB_of {A : Addr → At} {ks ks' : List Kd} {S' : Kd → Prop} (ib : InB C b) (hk : ArgsK true ks ks') (a : A b ks' S' noZ) (s : ∀ k, S' k → S k) : gCallB C A ks S := ⟨b, ib, ks', S', hk, a, s⟩
theorem gCallL_of {A : Addr → At} {ks ks' : List Kd} {S' : Kd → Prop} (ib : InB C b) (hk : ArgsK false ks ks') (a : A b ks' S' noZ) (s : ∀ k, S' k → S k) : gCallL C A ks S := ⟨b, ib, ks', S', hk, a, s⟩
/-- [e for x in ..], all of them such -/
theorem gLc_all {j : Nat} {ft : List Kd → (Bool → Prop) → Prop} {fe : List Kd → (Kd → Prop) → Prop} {ds : List PyData} (P : PyData → Prop) (hj : notOwn ρ[j]? = true) (hl : ds.length ≤ sizeLine) (ht : ∀ ρ S, S true → ft ρ S)
    (he : ∀ (n : Nat) a, ds[n]? = some a → ∀ S : Kd → Prop, (∀ d, nl d = true → P d → S (.dat d)) → fe (lcR ρ j a) S) (s : ∀ acc, acc.length = ds.length → (∀ d ∈ acc, P d) → S (.new acc)) : gLc j ρ ft fe ds S :=
  ⟨hj, hl, fun n acc => acc.length = n ∧ ∀ d ∈ acc, P d, ⟨rfl, fun d hd => by cases hd⟩, fun n acc e => Nat.le_of_eq e.1, fun n a acc ea e => ht _ _ ⟨fun _ => he n a ea _ fun d hn hp => ⟨hn, by simp [e.1], fun d' hd' => by
    rcases List.mem_append.mp hd' with hd' | hd'
    · exact e.2 d' hd'
    · rw [List.mem_singleton.mp hd']; exact hp⟩, fun h => by cases h⟩, fun acc e => s acc e.1 e.2⟩
end
end Mh
namespace Mh
open PySem PySem.Spec PyProof.Rows L2 TL
local macro_rules | `(tactic| k_updF) => `(tactic| try simp only [gV_some, gI0_i, gII_i, gAdd_i, gAdd_s, gAdd_t, gAdd_nn, gAdd_on, gAdd_no, gMul_i, gNon_d, gNeg_i, gPart_i, gSl_s, gSl_t, gSl_o, gSl_n, gSl_l, gLen_s, gLen_t, gLen_l, gLen_o, gLen_n, gInt_i, gStr_i, gTupC_n, gTupC_o, gTupC_l, gTupC_t, gII2_i, gB_b, gTr_b, gIf_t, gIf_f, gTx_s, gSplit_s, gRng1_i, gRng2_i, gR1_i, gOwn_o, gItem_d, gItem_n, gAug_i, gInt1_i, gPair_t, gFmt_s, gFmt_i, gJn_s, NxA, RtK, rdK, List.length_cons, List.length_nil, Nat.reduceAdd, Nat.reduceSub, Nat.reduceLT, List.replicate_succ, List.replicate_zero, List.cons_append, List.nil_append, List.append_nil, List.getElem?_cons_zero, List.getElem?_cons_succ, List.set_cons_zero, List.set_cons_succ, true_and, and_true, isNon_n, isNon_i, isNon_b, isNon_s, isNon_t, isNon_l, isNon_d, Bool.not_true, Bool.not_false, id_eq, lcR, notOwn, gIsi_int_none, gIsi_int_bool, gIsi_int_int, gIsi_int_str, gIsi_int_tuple, gIsi_int_list, gIsi_int_own, gIsi_int_new, gIsi_bool_none, gIsi_bool_bool, gIsi_bool_int, gIsi_bool_str, gIsi_bool_tuple, gIsi_bool_list, gIsi_bool_own, gIsi_bool_new, gIsi_tuple_none, gIsi_tuple_bool, gIsi_tuple_int, gIsi_tuple_str, gIsi_tuple_tuple, gIsi_tuple_list, gIsi_tuple_own, gIsi_tuple_new, gIsi_str_none, gIsi_str_bool, gIsi_str_int, gIsi_str_str, gIsi_str_tuple, gIsi_str_list, gIsi_str_own, gIsi_str_new, gIsi_list_none, gIsi_list_bool, gIsi_list_int, gIsi_list_str, gIsi_list_tuple, gIsi_list_list, gIsi_list_own, gIsi_list_new])
local macro_rules | `(tactic| k_keys) => `(tactic| first | exact ⟨.inr rfl, rfl⟩ | exact .inr rfl | rfl | trivial | (refine ⟨.inr ?_, rfl⟩; assumption) | (refine .inr ?_; assumption))

/-! ### k79: the law's texts -/
def A_lrt (b : Addr) : At := fun ks S Z => ∃ p k : Int, ks = [bx b, .dat (.int p), .dat (.int k)] ∧ 1 ≤ p ∧ p ≤ 31 ∧ 1 ≤ k ∧ k ≤ 4 ∧ S = (fun x => ∃ z, Rk z ∧ x = .dat (.str z)) ∧ Z = noZ
abbrev sp_law_row_text (K : PySem.W.Frag) : Sp := spB K A_lrt
def A_lhb (b : Addr) : At := fun ks S Z => ∃ p k : Int, ks = [bx b, .dat (.int p), .dat (.int k)] ∧ p ∈ primesL ∧ k ∈ [(1 : Int), 2, 3, 4] ∧ S = (fun x => ∃ z, Lk z ∧ x = .dat (.str z)) ∧ Z = noZ
abbrev sp_law_head_bent (K : PySem.W.Frag) : Sp := spB K A_lhb
def A_lhl (b : Addr) : At := fun ks S Z => ∃ (p k : Int) (r : Str), ks = [bx b, .dat (.int p), .dat (.int k), .dat (.str (("hall " : Str) ++ r))] ∧ p ∈ primesL ∧ k ∈ [(1 : Int), 2, 3, 4] ∧ Rk r ∧ S = (fun x => ∃ z, Lk z ∧ x = .dat (.str z)) ∧ Z = noZ
abbrev sp_law_hall_bent (K : PySem.W.Frag) : Sp := spB K A_lhl
def A_lbt (b : Addr) : At := fun ks S Z => ∃ (p k : Int) (zs : List Str), ks = [bx b, .dat (.int p), .dat (.int k), .dat (.list (zs.map .str))] ∧ p ∈ primesL ∧ k ∈ [(1 : Int), 2, 3, 4] ∧ zs ≠ [] ∧ zs.length ≤ 10 ∧ (∀ z ∈ zs, Lk z) ∧
  S = (fun x => ∃ zs' : List Str, zs' ≠ [] ∧ zs'.length ≤ 12 ∧ (∀ z ∈ zs', Lk z) ∧ x = .new (zs'.map .str)) ∧ Z = noZ
abbrev sp_law_bent (K : PySem.W.Frag) : Sp := spL K A_lbt

abbrev t_law_row_text (K : PySem.W.Frag) : TS := (tRet (tM1 (rJoin K) (tC (.str ",")) (tLc (iRng1 (tCons (tVar 2) tNil)) (gName 3) tYes (tCB (rStrP) (tCons (tCall (sp_law_draw K) [] E0 (tCons (tVar 0) (tCons (tVar 1) tNil))) tNil)) [3])))
abbrev t_law_head_bent (K : PySem.W.Frag) : TS := (tSeq (tAsg (tCB (rStrP) (tCons (tVar 1) tNil)) (gName 3))
  (tSeq (tAsg (tCB (rStrP) (tCons (tVar 2) tNil)) (gName 4))
  (tSeq (tAsg (tLst (tCons (tOp (rAddP K) (tC (.str "book 4 ")) (tVar 4)) (tCons (tOp (rAddP K) (tC (.str "book 1 ")) (tVar 4)) (tCons (tOp (rAddP K) (tC (.str "book 0 ")) (tVar 4)) (tCons (tOp (rAddP K) (tC (.str "book 9 ")) (tVar 4)) (tCons (tOp (rAddP K) (tC (.str "book 25 ")) (tVar 4)) (tCons (tOp (rAddP K) (tOp (rAddP K) (tC (.str "book ")) (tVar 3)) (tC (.str " 0"))) (tCons (tOp (rAddP K) (tOp (rAddP K) (tOp (rAddP K) (tC (.str "book 0")) (tVar 3)) (tC (.str " "))) (tVar 4)) (tCons (tOp (rAddP K) (tOp (rAddP K) (tOp (rAddP K) (tC (.str "book ")) (tVar 3)) (tC (.str " 0"))) (tVar 4)) (tCons (tOp (rAddP K) (tOp (rAddP K) (tOp (rAddP K) (tC (.str "Book ")) (tVar 3)) (tC (.str " "))) (tVar 4)) (tCons (tOp (rAddP K) (tC (.str "book ")) (tVar 3)) (tCons (tOp (rAddP K) (tOp (rAddP K) (tOp (rAddP K) (tOp (rAddP K) (tC (.str "book ")) (tVar 3)) (tC (.str " "))) (tVar 4)) (tC (.str " "))) (tCons (tOp (rAddP K) (tOp (rAddP K) (tOp (rAddP K) (tC (.str "book  ")) (tVar 3)) (tC (.str " "))) (tVar 4)) (tCons (tOp (rAddP K) (tOp (rAddP K) (tOp (rAddP K) (tC (.str " book ")) (tVar 3)) (tC (.str " "))) (tVar 4)) (tCons (tC (.str "")) (tCons (tC (.str "hall")) (tCons (tOp (rAddP K) (tOp (rAddP K) (tOp (rAddP K) (tOp (rAddP K) (tC (.str "book ")) (tVar 3)) (tC (.str " "))) (tVar 4)) (tC (.str " 1"))) (tCons (tOp (rAddP K) (tOp (rAddP K) (tOp (rAddP K) (tC (.str "book -")) (tVar 3)) (tC (.str " "))) (tVar 4)) (tCons (tOp (rAddP K) (tOp (rAddP K) (tOp (rAddP K) (tC (.str "book ")) (tVar 3)) (tC (.str ","))) (tVar 4)) (tCons (tOp (rAddP K) (tC (.str "book 31 ")) (tVar 4)) (tCons (tOp (rAddP K) (tC (.str "book 2 ")) (tVar 4)) (tCons (tOp (rAddP K) (tOp (rAddP K) (tC (.str "book ")) (tVar 3)) (tC (.str " -1"))) (tCons (tOp (rAddP K) (tOp (rAddP K) (tOp (rAddP K) (tC (.str "book\t")) (tVar 3)) (tC (.str " "))) (tVar 4)) (tCons (tOp (rAddP K) (tOp (rAddP K) (tOp (rAddP K) (tC (.str "book ")) (tVar 3)) (tC (.str " +"))) (tVar 4)) (tCons (tC (.str "book")) tNil))))))))))))))))))))))))) (gName 5))
  (tRet (tOp (rIx K) (tVar 5) (tCall (sp_law_draw K) [] E0 (tCons (tVar 0) (tCons (tCB (rLenP K) (tCons (tVar 5) tNil)) tNil))))))))
abbrev t_law_hall_bent (K : PySem.W.Frag) : TS := (tSeq (tAsg (tCall (sp_law_row_text K) [] E0 (tCons (tVar 0) (tCons (tVar 1) (tCons (tVar 2) tNil)))) (gName 4))
  (tSeq (tAsg (tLst (tCons (tOp (rAddP K) (tVar 3) (tC (.str " "))) (tCons (tOp (rAddP K) (tOp (rAddP K) (tOp (rAddP K) (tVar 3) (tC (.str " "))) (tVar 4)) (tC (.str ",0"))) (tCons (tOp (rAddP K) (tOp (rAddP K) (tVar 3) (tC (.str " "))) (tSl (rSlP K) (tVar 4) tNoPart (tPart (tUn rNegI (tC (.int 1)))))) (tCons (tOp (rAddP K) (tOp (rAddP K) (tOp (rAddP K) (tVar 3) (tC (.str " "))) (tCB (rStrP) (tCons (tVar 1) tNil))) (tSl (rSlP K) (tVar 4) (tPart (tC (.int 1))) tNoPart)) (tCons (tOp (rAddP K) (tC (.str " ")) (tVar 3)) (tCons (tOp (rAddP K) (tOp (rAddP K) (tVar 3) (tC (.str "  "))) (tVar 4)) (tCons (tOp (rAddP K) (tOp (rAddP K) (tVar 3) (tC (.str " 0"))) (tVar 4)) (tCons (tOp (rAddP K) (tOp (rAddP K) (tVar 3) (tC (.str ","))) (tVar 4)) (tCons (tOp (rAddP K) (tC (.str "Hall")) (tSl (rSlP K) (tVar 3) (tPart (tC (.int 4))) tNoPart)) (tCons (tOp (rAddP K) (tC (.str "halls")) (tSl (rSlP K) (tVar 3) (tPart (tC (.int 4))) tNoPart)) (tCons (tSl (rSlP K) (tVar 3) tNoPart (tPart (tC (.int 3)))) (tCons (tC (.str "")) (tCons (tOp (rAddP K) (tOp (rAddP K) (tOp (rAddP K) (tVar 3) (tC (.str " "))) (tVar 4)) (tC (.str ","))) (tCons (tOp (rAddP K) (tOp (rAddP K) (tVar 3) (tC (.str " ,"))) (tVar 4)) (tCons (tOp (rAddP K) (tOp (rAddP K) (tVar 3) (tC (.str " "))) (CwR.tReplC (tVar 4) "," ", ")) (tCons (tOp (rAddP K) (tC (.str "hall\t")) (tVar 4)) (tCons (tOp (rAddP K) (tOp (rAddP K) (tVar 3) (tC (.str " -"))) (tVar 4)) (tCons (tOp (rAddP K) (tOp (rAddP K) (tOp (rAddP K) (tC (.str "book ")) (tCB (rStrP) (tCons (tVar 1) tNil))) (tC (.str " "))) (tCB (rStrP) (tCons (tVar 2) tNil))) (tCons (tOp (rAddP K) (tC (.str "hall ")) (tVar 4)) (tCons (tC (.str "hall")) (tCons (tOp (rAddP K) (tVar 3) (tC (.str " x"))) (tCons (tOp (rAddP K) (tVar 3) (tC (.str "\t"))) tNil))))))))))))))))))))))) (gName 5))
  (tRet (tOp (rIx K) (tVar 5) (tCall (sp_law_draw K) [] E0 (tCons (tVar 0) (tCons (tCB (rLenP K) (tCons (tVar 5) tNil)) tNil)))))))
abbrev t_law_bent (K : PySem.W.Frag) : TS := (tSeq (tAsg (tCB (rLstP K) (tCons (tVar 3) tNil)) (gName 4))
  (tSeq (tFor (iRng1 (tCons (tOp (rAddP K) (tC (.int 1)) (tCall (sp_law_draw K) [] E0 (tCons (tVar 0) (tCons (tC (.int 2)) tNil)))) tNil)) (gName 5) (tSeq (tAsg (tCall (sp_law_draw K) [] E0 (tCons (tVar 0) (tCons (tC (.int 12)) tNil))) (gName 6))
  (tSeq (tAsg (tCall (sp_law_draw K) [] E0 (tCons (tVar 0) (tCons (tCB (rLenP K) (tCons (tVar 4) tNil)) tNil))) (gName 7))
  (tIfS (tTest (tOp rLtI (tVar 6) (tC (.int 2)))) (tAsg (tCall (sp_law_head_bent K) [] E0 (tCons (tVar 0) (tCons (tVar 1) (tCons (tVar 2) tNil)))) (gSub (tVar 4) (tC (.int 0)) rSetL)) (tIfS (tTest (tOp rLtI (tVar 6) (tC (.int 7)))) (tAsg (tCall (sp_law_hall_bent K) [] E0 (tCons (tVar 0) (tCons (tVar 1) (tCons (tVar 2) (tCons (tOp (rAddP K) (tC (.str "hall ")) (tCall (sp_law_row_text K) [] E0 (tCons (tVar 0) (tCons (tVar 1) (tCons (tVar 2) tNil))))) tNil))))) (gSub (tVar 4) (tVar 7) rSetL)) (tIfS (tTest (tOp (rEqP K) (tVar 6) (tC (.int 7)))) (tAsg (tOp (rAddP K) (tVar 4) (tLst (tCons (tOp (rIx K) (tVar 4) (tVar 7)) tNil))) (gName 4)) (tIfS (tAnd (tTest (tOp (rEqP K) (tVar 6) (tC (.int 8)))) (tTest (tOp rGtI (tCB (rLenP K) (tCons (tVar 4) tNil)) (tC (.int 1))))) (tAsg (tOp (rAddP K) (tSl (rSlP K) (tVar 4) tNoPart (tPart (tVar 7))) (tSl (rSlP K) (tVar 4) (tPart (tOp (rAddP K) (tVar 7) (tC (.int 1)))) tNoPart)) (gName 4)) (tIfS (tTest (tOp (rEqP K) (tVar 6) (tC (.int 9)))) (tAsg (tOp (rAddP K) (tVar 4) (tLst (tCons (tC (.str "")) tNil))) (gName 4)) (tIfS (tTest (tOp (rEqP K) (tVar 6) (tC (.int 10)))) (tAsg (tOp (rAddP K) (tOp (rAddP K) (tSl (rSlP K) (tVar 4) tNoPart (tPart (tVar 7))) (tLst (tCons (tC (.str "")) tNil))) (tSl (rSlP K) (tVar 4) (tPart (tVar 7)) tNoPart)) (gName 4)) (tSeq (tAsg (tOp (rIx K) (tVar 4) (tC (.int 0))) (gName 8))
  (tSeq (tAsg (tOp (rIx K) (tVar 4) (tVar 7)) (gSub (tVar 4) (tC (.int 0)) rSetL))
  (tAsg (tVar 8) (gSub (tVar 4) (tVar 7) rSetL)))))))))))))
  (tRet (tVar 4))))

theorem prim_le {p : Int} (h : p ∈ primesL) : 1 ≤ p ∧ p ≤ 31 := by
  simp only [primesL, List.mem_cons, List.not_mem_nil, or_false] at h
  omega
theorem four_le {p : Int} (h : p ∈ [(1 : Int), 2, 3, 4]) : 1 ≤ p ∧ p ≤ 4 := by
  simp only [List.mem_cons, List.not_mem_nil, or_false] at h
  omega
def IsRk (d : PyData) : Prop := ∃ i : Int, 0 ≤ i ∧ i < 31 ∧ d = .str (nT i)
theorem strs_of {P : Str → Prop} : ∀ {ds : List PyData}, (∀ d ∈ ds, ∃ z, P z ∧ d = .str z) → ∃ zs : List Str, ds = zs.map .str ∧ ∀ z ∈ zs, P z
  | [], _ => ⟨[], rfl, fun z hz => by cases hz⟩
  | d :: ds, h => by
    obtain ⟨zs, e, hz⟩ := strs_of (ds := ds) fun x hx => h x (List.mem_cons_of_mem _ hx)
    obtain ⟨z, h1, rfl⟩ := h d List.mem_cons_self
    refine ⟨z :: zs, by rw [e]; rfl, fun y hy => ?_⟩
    rcases List.mem_cons.mp hy with rfl | hy
    · exact h1
    · exact hz y hy
theorem join_rk {zs : List Str} (h : ∀ z ∈ zs, (∀ c ∈ tl z, 48 ≤ c ∧ c ≤ 57) ∧ z.length ≤ 2) (hl : zs.length ≤ 4) : Rk (Txt.join "," zs) := by
  refine ⟨fun c hc => ?_, ?_⟩
  · rw [tl_join (c := 44) (by decide +kernel)] at hc
    rcases glue_mem hc with h1 | ⟨p, hp, h1⟩
    · exact .inl h1
    · obtain ⟨z, hz, rfl⟩ := List.mem_map.mp hp
      exact .inr ((h z hz).1 c h1)
  · cases zs with
    | nil => exact Nat.zero_le _
    | cons a l =>
      rw [show Txt.join "," (a :: l) = Str.join "," (a :: l) from StrLaws.glued_eq_join "," (a :: l), len_join_cons]
      have h1 : ((a :: l).map (·.length)).sum ≤ (a :: l).length * 2 := sum_le fun x hx => (h x hx).2
      rw [List.length_cons] at h1 hl
      rw [show ((",") : Str).length = 1 by decide +kernel]
      omega
section
variable {K : PySem.W.Frag} {vs : List V} {H : Hp} {Q : VK} {E : XK}
theorem go_law_row_text (h : sp_law_row_text K vs H Q E) : t_law_row_text K { nx := fun _ H' => Q .non H', rt := Q } (L2.start ["box", "p", "k", "j"] vs) H := by
  refine sb_wp h (fun E => inferInstance) ?_
  rintro C b ks S Z hK hfr hZ ib ⟨p, k, rfl, p0, p1, k0, k1, rfl, rfl⟩
  have big := sl_big
  k_updF
  refine ⟨by omega, by omega, gLc_all (fun d => ∃ z : Str, ((∀ c ∈ tl z, 48 ≤ c ∧ c ≤ 57) ∧ z.length ≤ 2) ∧ d = .str z) rfl (by rw [intsL_len]; omega) (fun ρ S s => s) ?_ ?_⟩
  · intro n a ea S s
    have hm : n < k.toNat := by
      have := (List.getElem?_eq_some_iff.mp ea).1
      rwa [intsL_len] at this
    rw [intsL_at hm] at ea
    cases ea
    k_updF
    refine gDraw ib (by omega) (by omega) fun d d0 d1 => ?_
    k_updF
    refine ⟨log_lt d0 (by omega), s _ rfl ⟨nT d, ⟨fun c hc => ?_, nT_len2 d0 (by omega)⟩, rfl⟩⟩
    rw [nT_tl d0] at hc
    have := numL_digits _ c hc
    omega
  · intro acc hl ha
    rw [intsL_len] at hl
    obtain ⟨zs, rfl, hz⟩ := strs_of ha
    rw [List.length_map] at hl
    refine gJoin_of (zs := zs) rfl ?_ ⟨.inl hfr, _, join_rk hz (by omega), rfl⟩
    have h1 : (zs.map (·.length)).sum ≤ zs.length * 2 := sum_le fun x hx => (hz x hx).2
    rw [show ((",") : Str).length = 1 by decide +kernel]
    omega
theorem go_law_head_bent (h : sp_law_head_bent K vs H Q E) : t_law_head_bent K { nx := fun _ H' => Q .non H', rt := Q } (L2.start ["box", "p", "k", "one", "two", "others"] vs) H := by
  refine sb_wp h (fun E => inferInstance) ?_
  rintro C b ks S Z hK hfr hZ ib ⟨p, k, rfl, hp, hk, rfl, rfl⟩
  have big := sl_big
  have p1 := prim_le hp
  have k1 := four_le hk
  have lp := nT_len2 (i := p) (by omega) (by omega)
  have lk := nT_len2 (i := k) (by omega) (by omega)
  have e1 : ((toString p : String) : Str) = nT p := rfl
  have e2 : ((toString k : String) : Str) = nT k := rfl
  k_updF
  refine ⟨log_lt (by omega) (by omega), log_lt (by omega) (by omega), ?_⟩
  rw [e1, e2]
  have lens : (("book 4 " : Str)).length = 7 ∧ (("book 1 " : Str)).length = 7 ∧ (("book 0 " : Str)).length = 7 ∧ (("book 9 " : Str)).length = 7 ∧ (("book 25 " : Str)).length = 8 ∧ (("book " : Str)).length = 5 ∧ ((" 0" : Str)).length = 2 ∧ (("book 0" : Str)).length = 6 ∧ ((" " : Str)).length = 1 ∧ (("Book " : Str)).length = 5 ∧ (("book  " : Str)).length = 6 ∧ ((" book " : Str)).length = 6 ∧ ((" 1" : Str)).length = 2 ∧ (("book -" : Str)).length = 6 ∧ (("," : Str)).length = 1 ∧ (("book 31 " : Str)).length = 8 ∧ (("book 2 " : Str)).length = 7 ∧ ((" -1" : Str)).length = 3 ∧ (("book\t" : Str)).length = 5 ∧ ((" +" : Str)).length = 2 := by decide +kernel
  obtain ⟨g1, g2, g3, g4, g5, g6, g7, g8, g9, g10, g11, g12, g13, g14, g15, g16, g17, g18, g19, g20⟩ := lens
  simp only [str_app_len, g1, g2, g3, g4, g5, g6, g7, g8, g9, g10, g11, g12, g13, g14, g15, g16, g17, g18, g19, g20]
  refine ⟨by omega, by omega, by omega, by omega, by omega, by omega, by omega, by omega, by omega, by omega, by omega, by omega, by omega, by omega, by omega, by omega, by omega, by omega, by omega, by omega, by omega, by omega, by omega, by omega, by omega, by omega, by omega, by omega, by omega, by omega, by omega, by omega, by omega, by omega, by omega, by omega, by omega, by omega, by omega, by omega, by omega, by omega, by omega, by omega, by omega, by omega, by omega, ?_⟩
  refine gLstK_of (ds := (headB p k).map .str) rfl (by show 24 ≤ _; omega) ?_
  k_updF
  intro l
  rw [show (((headB p k).map PyData.str).length : Int) = 24 from rfl]
  refine gDraw ib (by decide) (by decide) fun d d0 d1 => ?_
  obtain ⟨u, e3, e4⟩ := at_set (xs := (headB p k).map PyData.str) (n := 24) rfl d0 d1
  obtain ⟨z, hz, rfl⟩ := List.mem_map.mp e4
  refine gIx_of rfl e3 ⟨.inl hfr, z, LkB_ok (List.all_eq_true.mp (head_all p hp k hk).2 z hz), rfl⟩
end
end Mh
namespace Mh
open PySem PySem.Spec PyProof.Rows L2 TL
local macro_rules | `(tactic| k_updF) => `(tactic| try simp only [gV_some, gI0_i, gII_i, gAdd_i, gAdd_s, gAdd_t, gAdd_nn, gAdd_on, gAdd_no, gMul_i, gNon_d, gNeg_i, gPart_i, gSl_s, gSl_t, gSl_o, gSl_n, gSl_l, gLen_s, gLen_t, gLen_l, gLen_o, gLen_n, gInt_i, gStr_i, gTupC_n, gTupC_o, gTupC_l, gTupC_t, gII2_i, gB_b, gTr_b, gIf_t, gIf_f, gTx_s, gSplit_s, gRng1_i, gRng2_i, gR1_i, gOwn_o, gItem_d, gItem_n, gAug_i, gInt1_i, gPair_t, gFmt_s, gFmt_i, gJn_s, NxA, RtK, rdK, List.length_cons, List.length_nil, Nat.reduceAdd, Nat.reduceSub, Nat.reduceLT, List.replicate_succ, List.replicate_zero, List.cons_append, List.nil_append, List.append_nil, List.getElem?_cons_zero, List.getElem?_cons_succ, List.set_cons_zero, List.set_cons_succ, true_and, and_true, isNon_n, isNon_i, isNon_b, isNon_s, isNon_t, isNon_l, isNon_d, Bool.not_true, Bool.not_false, id_eq, lcR, notOwn, gIsi_int_none, gIsi_int_bool, gIsi_int_int, gIsi_int_str, gIsi_int_tuple, gIsi_int_list, gIsi_int_own, gIsi_int_new, gIsi_bool_none, gIsi_bool_bool, gIsi_bool_int, gIsi_bool_str, gIsi_bool_tuple, gIsi_bool_list, gIsi_bool_own, gIsi_bool_new, gIsi_tuple_none, gIsi_tuple_bool, gIsi_tuple_int, gIsi_tuple_str, gIsi_tuple_tuple, gIsi_tuple_list, gIsi_tuple_own, gIsi_tuple_new, gIsi_str_none, gIsi_str_bool, gIsi_str_int, gIsi_str_str, gIsi_str_tuple, gIsi_str_list, gIsi_str_own, gIsi_str_new, gIsi_list_none, gIsi_list_bool, gIsi_list_int, gIsi_list_str, gIsi_list_tuple, gIsi_list_list, gIsi_list_own, gIsi_list_new])
local macro_rules | `(tactic| k_keys) => `(tactic| first | exact ⟨.inr rfl, rfl⟩ | exact .inr rfl | rfl | trivial | (refine ⟨.inr ?_, rfl⟩; assumption) | (refine .inr ?_; assumption))


def hallB (p k : Int) (r row : Str) : List Str :=
  let line := ("hall " : Str) ++ r
  [line ++ (" " : Str), line ++ (" " : Str) ++ row ++ (",0" : Str), line ++ (" " : Str) ++ cutS row none (some (-1)), line ++ (" " : Str) ++ nT p ++ cutS row (some 1) none, (" " : Str) ++ line,
   line ++ ("  " : Str) ++ row, line ++ (" 0" : Str) ++ row, line ++ ("," : Str) ++ row, ("Hall" : Str) ++ cutS line (some 4) none, ("halls" : Str) ++ cutS line (some 4) none, cutS line none (some 3),
   ("" : Str), line ++ (" " : Str) ++ row ++ ("," : Str), line ++ (" ," : Str) ++ row, line ++ (" " : Str) ++ Txt.replace row "," ", ", ("hall\t" : Str) ++ row,
   line ++ (" -" : Str) ++ row, ("book " : Str) ++ nT p ++ (" " : Str) ++ nT k, ("hall " : Str) ++ row, ("hall" : Str), line ++ (" x" : Str), line ++ ("\t" : Str)]
theorem ckB {z : Str} (h : (tl z).all (fun c => decide (c < 128) && (!decide (c = 10) && !decide (c = 107))) = true) : Ck z := fun c hc => by
  have := List.all_eq_true.mp h c hc
  simpa using this
theorem hallB_lk {p k : Int} {r row : Str} (hp : p ∈ primesL) (hk : k ∈ [(1 : Int), 2, 3, 4]) (hr : Rk r) (hw : Rk row) : ∀ z ∈ hallB p k r row, Lk z := by
  have p1 := prim_le hp
  have c1 : Ck ("hall " : Str) := ckB (by decide +kernel)
  have c2 : Ck (" " : Str) := ckB (by decide +kernel)
  have c3 : Ck (",0" : Str) := ckB (by decide +kernel)
  have c4 : Ck ("  " : Str) := ckB (by decide +kernel)
  have c5 : Ck (" 0" : Str) := ckB (by decide +kernel)
  have c6 : Ck ("," : Str) := ckB (by decide +kernel)
  have c7 : Ck ("Hall" : Str) := ckB (by decide +kernel)
  have c8 : Ck ("halls" : Str) := ckB (by decide +kernel)
  have c9 : Ck (" ," : Str) := ckB (by decide +kernel)
  have c10 : Ck ("hall\t" : Str) := ckB (by decide +kernel)
  have c11 : Ck (" -" : Str) := ckB (by decide +kernel)
  have c12 : Ck ("hall" : Str) := ckB (by decide +kernel)
  have c13 : Ck (" x" : Str) := ckB (by decide +kernel)
  have c14 : Ck ("\t" : Str) := ckB (by decide +kernel)
  have c15 : Ck ("" : Str) := ckB (by decide +kernel)
  have cp : Ck (nT p) := nT_ck (by omega)
  have lp := nT_len2 (i := p) (by omega) (by omega)
  have lr := hr.2
  have lw := hw.2
  have cl : Ck (("hall " : Str) ++ r) := c1.app hr.ck
  have cw := hw.ck
  have lens : (("hall " : Str)).length = 5 ∧ ((" " : Str)).length = 1 ∧ ((",0" : Str)).length = 2 ∧ (("  " : Str)).length = 2 ∧ ((" 0" : Str)).length = 2 ∧ (("," : Str)).length = 1 ∧ (("Hall" : Str)).length = 4 ∧ (("halls" : Str)).length = 5 ∧ ((" ," : Str)).length = 2 ∧ (("hall\t" : Str)).length = 5 ∧ ((" -" : Str)).length = 2 ∧ (("hall" : Str)).length = 4 ∧ ((" x" : Str)).length = 2 ∧ (("\t" : Str)).length = 1 ∧ (("" : Str)).length = 0 ∧ ((", " : Str)).length = 2 := by decide +kernel
  obtain ⟨l1, l2, l3, l4, l5, l6, l7, l8, l9, l10, l11, l12, l13, l14, l15, l16⟩ := lens
  have ll : (("hall " : Str) ++ r).length ≤ 16 := by rw [str_app_len, l1]; omega
  have k1 := cut_len_le (z := row) (lo := none) (hi := some (-1))
  have k2 := cut_len_le (z := row) (lo := some 1) (hi := none)
  have k3 := cut_len_le (z := ("hall " : Str) ++ r) (lo := some 4) (hi := none)
  have k4 := cut_len_le (z := ("hall " : Str) ++ r) (lo := none) (hi := some 3)
  have k5 := TK.replace_len row "," ", "
  rw [l16] at k5
  intro z hz
  simp only [hallB, List.mem_cons, List.not_mem_nil, or_false] at hz
  rcases hz with rfl | rfl | rfl | rfl | rfl | rfl | rfl | rfl | rfl | rfl | rfl | rfl | rfl | rfl | rfl | rfl | rfl | rfl | rfl | rfl | rfl | rfl
  · exact (cl.app c2).lk (by rw [str_app_len]; omega)
  · exact (((cl.app c2).app cw).app c3).lk (by simp only [str_app_len] at ll ⊢; omega)
  · exact ((cl.app c2).app cw.cut).lk (by simp only [str_app_len] at ll ⊢; omega)
  · exact (((cl.app c2).app cp).app cw.cut).lk (by simp only [str_app_len] at ll ⊢; omega)
  · exact (c2.app cl).lk (by simp only [str_app_len] at ll ⊢; omega)
  · exact ((cl.app c4).app cw).lk (by simp only [str_app_len] at ll ⊢; omega)
  · exact ((cl.app c5).app cw).lk (by simp only [str_app_len] at ll ⊢; omega)
  · exact ((cl.app c6).app cw).lk (by simp only [str_app_len] at ll ⊢; omega)
  · exact (c7.app cl.cut).lk (by rw [str_app_len]; omega)
  · exact (c8.app cl.cut).lk (by rw [str_app_len]; omega)
  · exact cl.cut.lk (by omega)
  · exact c15.lk (by omega)
  · exact (((cl.app c2).app cw).app c6).lk (by simp only [str_app_len] at ll ⊢; omega)
  · exact ((cl.app c9).app cw).lk (by simp only [str_app_len] at ll ⊢; omega)
  · exact ((cl.app c2).app cw.rep).lk (by simp only [str_app_len] at ll ⊢; omega)
  · exact (c10.app cw).lk (by rw [str_app_len]; omega)
  · exact ((cl.app c11).app cw).lk (by simp only [str_app_len] at ll ⊢; omega)
  · exact LkB_ok (head_all p hp k hk).1
  · exact (c1.app cw).lk (by rw [str_app_len]; omega)
  · exact c12.lk (by omega)
  · exact (cl.app c13).lk (by rw [str_app_len]; omega)
  · exact (cl.app c14).lk (by rw [str_app_len]; omega)
section
variable {K : PySem.W.Frag} {vs : List V} {H : Hp} {Q : VK} {E : XK}
theorem go_law_hall_bent (h : sp_law_hall_bent K vs H Q E) : t_law_hall_bent K { nx := fun _ H' => Q .non H', rt := Q } (L2.start ["box", "p", "k", "line", "row", "others"] vs) H := by
  refine sb_wp h (fun E => inferInstance) ?_
  rintro C b ks S Z hK hfr hZ ib ⟨p, k, r, rfl, hp, hk, hr, rfl, rfl⟩
  have big := sl_big
  have p1 := prim_le hp
  have k1 := four_le hk
  k_updF
  refine gCallB_of (A := A_lrt) ib (.cons a_bx (.cons (.dat fun _ => rfl) (.cons (.dat fun _ => rfl) .nil))) ⟨p, k, rfl, p1.1, p1.2, k1.1, k1.2, rfl, rfl⟩ ?_
  rintro _ ⟨row, hw, rfl⟩
  have lp := nT_len2 (i := p) (by omega) (by omega)
  have lk := nT_len2 (i := k) (by omega) (by omega)
  have lr := hr.2
  have lw := hw.2
  have e1 : ((toString p : String) : Str) = nT p := rfl
  have e2 : ((toString k : String) : Str) = nT k := rfl
  k_updF
  rw [e1, e2]
  have lens : (("hall " : Str)).length = 5 ∧ ((" " : Str)).length = 1 ∧ ((",0" : Str)).length = 2 ∧ (("  " : Str)).length = 2 ∧ ((" 0" : Str)).length = 2 ∧ (("," : Str)).length = 1 ∧ (("Hall" : Str)).length = 4 ∧ (("halls" : Str)).length = 5 ∧ ((" ," : Str)).length = 2 ∧ (("hall\t" : Str)).length = 5 ∧ ((" -" : Str)).length = 2 ∧ (("hall" : Str)).length = 4 ∧ ((" x" : Str)).length = 2 ∧ (("\t" : Str)).length = 1 ∧ (("" : Str)).length = 0 ∧ ((", " : Str)).length = 2 ∧ (("book " : Str)).length = 5 := by decide +kernel
  obtain ⟨l1, l2, l3, l4, l5, l6, l7, l8, l9, l10, l11, l12, l13, l14, l15, l16, l17⟩ := lens
  have k1 := cut_len_le (z := row) (lo := none) (hi := some (-1))
  have k2 := cut_len_le (z := row) (lo := some 1) (hi := none)
  have k3 := cut_len_le (z := ("hall " : Str) ++ r) (lo := some 4) (hi := none)
  have k4 := cut_len_le (z := ("hall " : Str) ++ r) (lo := none) (hi := some 3)
  have k5 := TK.replace_len row "," ", "
  rw [l16] at k5
  simp only [str_app_len, l1, l2, l3, l4, l5, l6, l7, l8, l9, l10, l11, l12, l13, l14, l15, l16, l17] at k3 k4 ⊢
  have ml : (p.natAbs.log2 < 1920) := log_lt (by omega) (by omega)
  have ml2 : (k.natAbs.log2 < 1920) := log_lt (by omega) (by omega)
  iterate 43 (refine ⟨by first | omega | exact ml | exact ml2, ?_⟩)
  refine gLstK_of (ds := (hallB p k r row).map .str) rfl (by show 22 ≤ _; omega) ?_
  k_updF
  intro l
  rw [show (((hallB p k r row).map PyData.str).length : Int) = 22 from rfl]
  refine gDraw ib (by decide) (by decide) fun d d0 d1 => ?_
  obtain ⟨u, e3, e4⟩ := at_set (xs := (hallB p k r row).map PyData.str) (n := 22) rfl d0 d1
  obtain ⟨z, hz, rfl⟩ := List.mem_map.mp e4
  exact gIx_of rfl e3 ⟨.inl hfr, z, hallB_lk hp hk hr hw z hz, rfl⟩
theorem lk_nil : Lk ("" : Str) := LkB_ok (by decide +kernel)
theorem cutD_map (zs : List Str) (lo hi : Option Int) : cutD (zs.map PyData.str) lo hi = ((zs.drop (HT.sIx zs.length 0 lo)).take (HT.sIx zs.length zs.length hi - HT.sIx zs.length 0 lo)).map .str := by
  unfold cutD
  rw [List.length_map, ← List.map_drop, ← List.map_take]
def LB (zs : List Str) (n : Nat) : Prop := zs ≠ [] ∧ zs.length ≤ n ∧ ∀ z ∈ zs, Lk z
theorem cut_lo {zs : List Str} {a : Int} (h0 : 0 ≤ a) : cutD (zs.map PyData.str) none (some a) = (zs.take a.toNat).map .str := by
  rw [cutD_map, HT.sIx_none, show a = ((a.toNat : Nat) : Int) by omega, HT.sIx_nat]
  congr 1
  simp only [List.drop_zero, Nat.sub_zero, Int.toNat_natCast]
  by_cases h : a.toNat ≤ zs.length
  · rw [Nat.min_eq_left h]
  · rw [Nat.min_eq_right (by omega), List.take_of_length_le (by omega), List.take_of_length_le (by omega)]
theorem cut_hi {zs : List Str} {a : Int} (h0 : 0 ≤ a) : cutD (zs.map PyData.str) (some a) none = (zs.drop a.toNat).map .str := by
  rw [cutD_map, HT.sIx_none, show a = ((a.toNat : Nat) : Int) by omega, HT.sIx_nat]
  congr 1
  simp only [Int.toNat_natCast]
  rw [List.take_of_length_le (by rw [List.length_drop]; exact Nat.le_refl _)]
  by_cases h : a.toNat ≤ zs.length
  · rw [Nat.min_eq_left h]
  · rw [Nat.min_eq_right (by omega), List.drop_of_length_le (by omega), List.drop_of_length_le (by omega)]
theorem go_law_bent (h : sp_law_bent K vs H Q E) : t_law_bent K { nx := fun _ H' => Q .non H', rt := Q } (L2.start ["box", "p", "k", "lines", "out", "turn", "shape", "at", "first"] vs) H := by
  refine sl_wp h (fun E => inferInstance) ?_
  rintro C b ks S Z hK hfr hZ ib ⟨p, k, zs, rfl, hp, hk, h0, hl, hz, rfl, rfl⟩
  have big := sl_big
  have p1 := prim_le hp
  have k1 := four_le hk
  k_updF
  refine gLstC_of (ds := zs.map .str) rfl ?_
  k_updF
  intro l0
  refine gDraw ib (by decide) (by decide) fun d d0 d1 => ?_
  k_updF
  refine ⟨by omega, by omega, ?_⟩
  have hm : (1 + d).toNat ≤ 2 := by omega
  refine ⟨fun n ρ => ∃ l zs' x5 x6 x7 x8, LB zs' (10 + n) ∧ ρ = [bx b, .dat (.int p), .dat (.int k), .dat (.list (zs.map .str)), .own l (zs'.map .str), x5, x6, x7, x8], ⟨l0, zs, _, _, _, _, ⟨h0, hl, hz⟩, rfl⟩, ?_, ?_⟩
  · rintro n _ hn ⟨l, zs', x5, x6, x7, x8, ⟨g0, gl, gz⟩, rfl⟩
    have gpos : 0 < zs'.length := List.length_pos_iff.mpr g0
    k_updF
    refine gDraw ib (by decide) (by decide) fun s s0 s1 => ?_
    k_updF
    rw [List.length_map]
    refine gDraw ib (by omega) (by omega) fun a a0 a1 => ?_
    k_updF
    have ix0 : ∀ m : Nat, 0 < m → ixN m 0 = some 0 := fun m h2 => by
      unfold ixN
      rw [if_pos (by decide), if_pos (by omega)]
      rfl
    have ixa : ∀ m : Nat, a < m → ixN m a = some a.toNat := fun m h2 => by
      unfold ixN
      rw [if_pos a0, if_pos h2]
    obtain ⟨za, hza⟩ : ∃ z, zs'[a.toNat]? = some z := ⟨_, List.getElem?_eq_getElem (by omega)⟩
    obtain ⟨zf, hzf⟩ : ∃ z, zs'[0]? = some z := ⟨_, List.getElem?_eq_getElem gpos⟩
    have ata : atI (zs'.map PyData.str) a = some (.str za) := by
      unfold atI
      rw [List.length_map, ixa _ (by omega)]
      show (zs'.map PyData.str)[a.toNat]? = _
      rw [List.getElem?_map, hza]
      rfl
    have atf : atI (zs'.map PyData.str) 0 = some (.str zf) := at_nat (n := 0) (by rw [List.getElem?_map, hzf]; rfl)
    have lka := gz za (lof hza)
    have lkf := gz zf (lof hzf)
    have put : ∀ (zs2 : List Str) (m : Nat), LB zs2 m → ∀ (i : Nat) (z : Str), Lk z → LB (zs2.set i z) m := fun zs2 m ⟨q0, ql, qz⟩ i z hzz => ⟨fun e => by
      have := congrArg List.length e
      rw [List.length_set] at this
      exact q0 (List.length_eq_zero_iff.mp this), by rw [List.length_set]; exact ql, fun y hy => by
      rcases List.mem_or_eq_of_mem_set hy with hy | hy
      · exact qz y hy
      · rw [hy]; exact hzz⟩
    have setm : ∀ (zs2 : List Str) (i : Nat) (z : Str), (zs2.map PyData.str).set i (.str z) = (zs2.set i z).map .str := fun zs2 i z => by rw [List.map_set]
    have app : ∀ zs2 zs3 : List Str, zs2.map PyData.str ++ zs3.map PyData.str = (zs2 ++ zs3).map .str := fun a b => by rw [List.map_append]
    have gLB : LB zs' (10 + (n + 1)) := ⟨g0, by omega, gz⟩
    refine ⟨fun _ => ?_, fun _ => ⟨fun _ => ?_, fun _ => ?_⟩⟩
    · refine gCallB_of (A := A_lhb) ib (.cons a_bx (.cons (.dat fun _ => rfl) (.cons (.dat fun _ => rfl) .nil))) ⟨p, k, rfl, hp, hk, rfl, rfl⟩ ?_
      rintro _ ⟨z, hzz, rfl⟩
      k_updF
      refine ⟨0, 0, rfl, ix0 _ gpos, ?_⟩
      rw [setm]
      exact ⟨l, _, _, _, _, _, put _ _ gLB _ _ hzz, rfl⟩
    · refine gCallB_of (A := A_lrt) ib (.cons a_bx (.cons (.dat fun _ => rfl) (.cons (.dat fun _ => rfl) .nil))) ⟨p, k, rfl, p1.1, p1.2, k1.1, k1.2, rfl, rfl⟩ ?_
      rintro _ ⟨r, hr, rfl⟩
      k_updF
      refine ⟨by have := hr.2; rw [show (("hall " : Str)).length = 5 by decide +kernel]; omega, ?_⟩
      refine gCallB_of (A := A_lhl) ib (.cons a_bx (.cons (.dat fun _ => rfl) (.cons (.dat fun _ => rfl) (.cons (.dat fun _ => rfl) .nil)))) ⟨p, k, r, rfl, hp, hk, hr, rfl, rfl⟩ ?_
      rintro _ ⟨z, hzz, rfl⟩
      k_updF
      refine ⟨a, a.toNat, rfl, ixa _ (by omega), ?_⟩
      rw [setm]
      exact ⟨l, _, _, _, _, _, put _ _ gLB _ _ hzz, rfl⟩
    · refine gEq_i ?_
      k_updF
      refine ⟨fun _ => ?_, fun _ => ?_⟩
      · refine gIx_of rfl ata ?_
        refine gLstK_of (ds := [.str za]) rfl (by show 1 ≤ _; omega) ?_
        k_updF
        refine ⟨by rw [List.length_map]; omega, fun l2 => ?_⟩
        rw [show [PyData.str za] = [za].map .str from rfl, app]
        refine ⟨l2, zs' ++ [za], _, _, _, _, ⟨by simp, by simp; omega, fun y hy => ?_⟩, rfl⟩
        rcases List.mem_append.mp hy with hy | hy
        · exact gz y hy
        · rw [List.mem_singleton.mp hy]; exact lka
      · refine gEq_i ?_
        k_updF
        have key : ∀ {c1 c2 c3 c4 A T : Prop}, T → (c2 → A) → (c1 → (c2 → A) ∧ (c3 → T)) ∧ (c4 → T) := fun t a => ⟨fun _ => ⟨a, fun _ => t⟩, fun _ => t⟩
        refine key ?_ ?_
        · refine gEq_i ?_
          k_updF
          refine ⟨fun _ => ?_, fun _ => ?_⟩
          · refine gLstK_of (ds := [.str ("" : Str)]) rfl (by show 1 ≤ _; omega) ?_
            k_updF
            refine ⟨by rw [List.length_map]; omega, fun l2 => ?_⟩
            rw [show [PyData.str ("" : Str)] = [("" : Str)].map .str from rfl, app]
            refine ⟨l2, zs' ++ [("" : Str)], _, _, _, _, ⟨by simp, by simp; omega, fun y hy => ?_⟩, rfl⟩
            rcases List.mem_append.mp hy with hy | hy
            · exact gz y hy
            · rw [List.mem_singleton.mp hy]; exact lk_nil
          · refine gEq_i ?_
            k_updF
            refine ⟨fun _ => ?_, fun _ => ?_⟩
            · refine gLstK_of (ds := [.str ("" : Str)]) rfl (by show 1 ≤ _; omega) ?_
              rw [cut_lo a0, cut_hi a0, show [PyData.str ("" : Str)] = [("" : Str)].map .str from rfl]
              k_updF
              refine ⟨by rw [List.length_map, List.length_map, List.length_take]; show _ + 1 ≤ _; omega, ?_, fun l2 => ?_⟩
              · rw [List.length_append, List.length_map, List.length_map, List.length_map, List.length_take, List.length_drop]
                show _ + 1 + _ ≤ _
                omega
              · rw [app, app]
                refine ⟨l2, _, _, _, _, _, ⟨by simp, ?_, fun y hy => ?_⟩, rfl⟩
                · rw [List.length_append, List.length_append, List.length_take, List.length_drop]
                  show _ + 1 + _ ≤ _
                  omega
                · rcases List.mem_append.mp hy with hy | hy
                  · rcases List.mem_append.mp hy with hy | hy
                    · exact gz y (List.mem_of_mem_take hy)
                    · rw [List.mem_singleton.mp hy]; exact lk_nil
                  · exact gz y (List.mem_of_mem_drop hy)
            · refine gIx_of rfl atf ?_
              refine gIx_of rfl ata ?_
              k_updF
              refine ⟨0, 0, rfl, ix0 _ gpos, ?_⟩
              rw [setm]
              k_updF
              refine ⟨a, a.toNat, rfl, ixa _ (by rw [List.length_map, List.length_set]; omega), ?_⟩
              rw [setm]
              exact ⟨l, _, _, _, _, _, put _ _ (put _ _ gLB _ _ lka) _ _ lkf, rfl⟩
        · intro h1
          have h1 : (1 : Int) < zs'.length := by simpa using h1
          rw [cut_lo a0, cut_hi (by omega)]
          k_updF
          refine ⟨by rw [List.length_map, List.length_map, List.length_take, List.length_drop]; omega, fun l2 => ?_⟩
          rw [app]
          refine ⟨l2, _, _, _, _, _, ⟨fun e => ?_, ?_, fun y hy => ?_⟩, rfl⟩
          · have := congrArg List.length e
            rw [List.length_append, List.length_take, List.length_drop, List.length_nil] at this
            omega
          · rw [List.length_append, List.length_take, List.length_drop]
            omega
          · rcases List.mem_append.mp hy with hy | hy
            · exact gz y (List.mem_of_mem_take hy)
            · exact gz y (List.mem_of_mem_drop hy)
  · rintro _ ⟨l, zs', x5, x6, x7, x8, ⟨g0, gl, gz⟩, rfl⟩
    k_updF
    exact ⟨.inr (nl_strs _), zs', g0, by omega, gz, rfl⟩
end
end Mh
namespace Mh
open PySem PySem.Spec PyProof.Rows L2 TL
local macro_rules | `(tactic| k_updF) => `(tactic| try simp only [gV_some, gI0_i, gII_i, gAdd_i, gAdd_s, gAdd_t, gAdd_nn, gAdd_on, gAdd_no, gMul_i, gNon_d, gNeg_i, gPart_i, gSl_s, gSl_t, gSl_o, gSl_n, gSl_l, gLen_s, gLen_t, gLen_l, gLen_o, gLen_n, gInt_i, gStr_i, gTupC_n, gTupC_o, gTupC_l, gTupC_t, gII2_i, gB_b, gTr_b, gIf_t, gIf_f, gTx_s, gSplit_s, gRng1_i, gRng2_i, gR1_i, gOwn_o, gItem_d, gItem_n, gAug_i, gInt1_i, gPair_t, gFmt_s, gFmt_i, gJn_s, NxA, RtK, rdK, List.length_cons, List.length_nil, Nat.reduceAdd, Nat.reduceSub, Nat.reduceLT, List.replicate_succ, List.replicate_zero, List.cons_append, List.nil_append, List.append_nil, List.getElem?_cons_zero, List.getElem?_cons_succ, List.set_cons_zero, List.set_cons_succ, true_and, and_true, isNon_n, isNon_i, isNon_b, isNon_s, isNon_t, isNon_l, isNon_d, Bool.not_true, Bool.not_false, id_eq, lcR, notOwn, gIsi_int_none, gIsi_int_bool, gIsi_int_int, gIsi_int_str, gIsi_int_tuple, gIsi_int_list, gIsi_int_own, gIsi_int_new, gIsi_bool_none, gIsi_bool_bool, gIsi_bool_int, gIsi_bool_str, gIsi_bool_tuple, gIsi_bool_list, gIsi_bool_own, gIsi_bool_new, gIsi_tuple_none, gIsi_tuple_bool, gIsi_tuple_int, gIsi_tuple_str, gIsi_tuple_tuple, gIsi_tuple_list, gIsi_tuple_own, gIsi_tuple_new, gIsi_str_none, gIsi_str_bool, gIsi_str_int, gIsi_str_str, gIsi_str_tuple, gIsi_str_list, gIsi_str_own, gIsi_str_new, gIsi_list_none, gIsi_list_bool, gIsi_list_int, gIsi_list_str, gIsi_list_tuple, gIsi_list_list, gIsi_list_own, gIsi_list_new])
local macro_rules | `(tactic| k_keys) => `(tactic| first | exact ⟨.inr rfl, rfl⟩ | exact .inr rfl | rfl | trivial | (refine ⟨.inr ?_, rfl⟩; assumption) | (refine .inr ?_; assumption))


/-! ### k79: a text that is read stands again -/
theorem nwV_back {w : Str} {n : Int} (h : nwV w = .int n) : w = nT n ∧ 0 ≤ n := by
  unfold nwV numV at h
  split at h
  · cases h
  · rename_i hc
    cases h
    simp only [Bool.or_eq_true, not_or, Bool.not_eq_true', Bool.not_eq_false, Bool.not_eq_true] at hc
    have ha : arf (tl w) = true := by simpa using hc.2
    refine ⟨ext_tl ?_, by omega⟩
    rw [nT_tl (by omega), Int.toNat_natCast, numL_back ha]
theorem nbV_back {p : Int} {w : Str} {n : Int} (h : nbV p w = .int n) : w = nT n := by
  rcases nbV_or p w with e | ⟨m, e, _, e2⟩
  · rw [e] at h; cases h
  · rw [e] at h
    cases h
    exact (nwV_back e2).1
theorem row_back {p : Int} : ∀ {ws : List Str} {ns : List Int}, ws.map (nbV p) = ns.map .int → ns.map nT = ws
  | [], [], _ => rfl
  | [], _ :: _, h => by cases h
  | _ :: _, [], h => by cases h
  | w :: ws, n :: ns, h => by
    rw [List.map_cons, List.map_cons] at h
    injection h with h1 h2
    rw [List.map_cons, row_back h2, ← nbV_back h1]
theorem rwV_back {p k : Int} {w : Str} {ns : List Int} (h : rwV p k w = rowD ns) : rowT ns = w := by
  unfold rwV at h
  rcases nbsV_or (Txt.split w ",") k p with e | ⟨e, _⟩
  · rw [e] at h; cases h
  · rw [e] at h
    have h2 : (Txt.split w ",").map (nbV p) = ns.map .int := by
      have : PyData.tuple ((Txt.split w ",").map (nbV p)) = .tuple (ns.map .int) := h
      injection this
    unfold rowT
    rw [row_back h2]
    exact join_split' w ","
theorem rows_back {p k : Int} : ∀ {ws : List Str} {rs : List (List Int)}, ws.map (rwV p k) = rs.map rowD → rs.map rowT = ws
  | [], [], _ => rfl
  | [], _ :: _, h => by cases h
  | _ :: _, [], h => by cases h
  | w :: ws, r :: rs, h => by
    rw [List.map_cons, List.map_cons] at h
    injection h with h1 h2
    rw [List.map_cons, rows_back h2, rwV_back h1]
theorem rrV_back {p k : Int} {z : Str} {rs : List (List Int)} (h : rrV p k z = rsD rs) : hallT rs = z := by
  rcases rrV_or p k z with e | ⟨ws, e0, e, _⟩
  · rw [e] at h; cases h
  · rw [e] at h
    have h2 : ws.map (rwV p k) = rs.map rowD := by
      have : PyData.tuple (ws.map (rwV p k)) = .tuple (rs.map rowD) := h
      injection this
    unfold hallT
    rw [rows_back h2, ← e0]
    exact join_split' z " "
theorem hrI_back {p k : Int} {ls : List Str} (h : (hrV p k ls).length = ls.length) : (hrI p k ls).map hallT = ls := by
  have ht : hrV p k ls = ls.map (rrV p k) := by
    have h1 := List.takeWhile_prefix (p := fun d => !isNon d) (l := ls.map (rrV p k))
    exact h1.eq_of_length (by rw [List.length_map]; exact h)
  unfold hrI
  rw [ht, List.map_map, List.map_map]
  conv => rhs; rw [← List.map_id ls]
  refine List.map_congr_left fun z hz => ?_
  have hm : rrV p k z ∈ hrV p k ls := by rw [ht]; exact List.mem_map_of_mem hz
  have hn := (tw_mem hm).1
  obtain ⟨rs, e, _⟩ := rrV_rows (p := p) (k := k) (z := z) (by simpa using hn)
  show hallT (hsL (rrV p k z)) = z
  rw [e, hsL_rs]
  exact rrV_back e
theorem head_back {z : Str} {p k : Int} (h : hdV z = .tuple [.int p, .int k]) : headT p k = z := by
  obtain ⟨p', k', e1, e2, _, _, a, b, c, hs, ha, hb, hc, _⟩ := hdV_pk h
  cases e1
  cases e2
  have e := join_split' z " "
  rw [show Txt.split z " " = [a, b, c] from hs] at e
  rw [← e, ha, (nwV_back hb).1, (nwV_back hc).1]
  refine ext_tl ?_
  rw [tl_join (c := 32) (by decide +kernel)]
  unfold headT
  simp only [tl_append, List.map_cons, List.map_nil, glue, show tl (" " : Str) = [32] by decide +kernel, show tl (Str.empty) = [] from rfl, List.nil_append, List.append_assoc, List.cons_append]
theorem book_back {z0 : Str} {ls : List Str} {p k : Int} (h : hdV z0 = .tuple [.int p, .int k]) (hl : (hrV p k ls).length = ls.length) : bookT p k (hrI p k ls) = Txt.join "\n" (z0 :: ls) := by
  unfold bookT linesT
  rw [head_back h, hrI_back hl]
/-! lengths -/
theorem glue_len {c : Nat} : ∀ {ps : List (List Nat)}, ps ≠ [] → (glue c ps).length + 1 = (ps.map (·.length + 1)).sum
  | [], h => absurd rfl h
  | [p], _ => rfl
  | p :: q :: r, _ => by
    have := glue_len (c := c) (ps := q :: r) (by simp)
    rw [show glue c (p :: q :: r) = p ++ c :: glue c (q :: r) from rfl, List.length_append, List.length_cons, List.map_cons, List.sum_cons]
    omega
theorem split_sum {c : Nat} {z : Str} (x : Str) (hz : z = ⟨#[c]⟩) : ((Txt.split x z).map (·.length + 1)).sum = x.length + 1 := by
  have e := split_glue x hz
  have h := glue_len (c := c) (ps := (Txt.split x z).map tl) (fun e => by
    have := split_pos x z
    rw [List.map_eq_nil_iff.mp e] at this
    cases this)
  rw [e, ← len_tl, List.map_map] at h
  rw [h]
  congr 1
theorem txt_nbV {p : Int} (hp : p ≤ 100) (w : Str) : (txt (nbV p w)).length ≤ 2 := by
  rcases nbV_or p w with e | ⟨n, e, h, _⟩
  · rw [e]; decide
  · rw [e, txt]
    exact numL_len (k := 2) (by decide) (by omega)
theorem txtAll_len {α : Type} {f : α → PyData} {g : α → Nat} : ∀ {xs : List α}, (∀ x ∈ xs, (txt (f x)).length + 1 ≤ g x) → (txtAll (xs.map f)).length ≤ (xs.map g).sum
  | [], _ => Nat.le_refl _
  | x :: xs, h => by
    have h1 := h x List.mem_cons_self
    have h2 := txtAll_len (f := f) (g := g) (xs := xs) fun y hy => h y (List.mem_cons_of_mem _ hy)
    rw [List.map_cons, txtAll, List.length_append, List.length_cons, List.map_cons, List.sum_cons]
    omega
theorem sum_mul {α : Type} {g : α → Nat} (m : Nat) : ∀ {xs : List α}, (xs.map fun x => m * g x).sum = m * (xs.map g).sum
  | [] => rfl
  | x :: xs => by rw [List.map_cons, List.sum_cons, sum_mul m (xs := xs), List.map_cons, List.sum_cons, Nat.mul_add]
theorem txt_rwV {p k : Int} (hp : p ≤ 100) (w : Str) : (txt (rwV p k w)).length + 1 ≤ 9 * (w.length + 1) := by
  unfold rwV
  rcases nbsV_or (Txt.split w ",") k p with e | ⟨e, _⟩
  · rw [e]
    show 1 + 1 ≤ _
    omega
  · rw [e, txt, List.length_cons, List.length_append]
    have := txtAll_len (f := nbV p) (g := fun _ => 3) (xs := Txt.split w ",") fun x _ => by have := txt_nbV hp x; omega
    have h2 := split_le w ","
    have h3 := sum_le (f := fun _ => 3) (b := 3) (xs := Txt.split w ",") fun _ _ => Nat.le_refl _
    show _ + 1 + 1 + 1 ≤ _
    have h4 : (Txt.split w ",").length ≤ w.length + 1 := by
      have := split_sum w (z := ",") cma
      have h5 := glue_len (c := 44) (ps := (Txt.split w ",").map tl) (fun e => by
        have := split_pos w ","
        rw [List.map_eq_nil_iff.mp e] at this
        cases this)
      have h6 : ∀ {xs : List Str}, xs.length ≤ (xs.map (·.length + 1)).sum := by
        intro xs
        induction xs with
        | nil => exact Nat.le_refl _
        | cons x r ih =>
          rw [List.map_cons, List.sum_cons, List.length_cons]
          omega
      have := h6 (xs := Txt.split w ",")
      omega
    omega
theorem txt_rrV {p k : Int} (hp : p ≤ 100) {z : Str} (hz : z.length ≤ 90) : (txt (rrV p k z)).length + 1 ≤ 1000 := by
  rcases rrV_or p k z with e | ⟨ws, e0, e, _⟩
  · rw [e]
    show 1 + 1 ≤ _
    omega
  · rw [e, txt, List.length_cons, List.length_append]
    have h1 := txtAll_len (f := rwV p k) (g := fun w => 9 * (w.length + 1)) (xs := ws) fun x _ => txt_rwV hp x
    rw [sum_mul 9 (g := fun w : Str => w.length + 1)] at h1
    have h2 := split_sum z (z := " ") spc
    rw [show Txt.split z " " = _ from e0, List.map_cons, List.sum_cons] at h2
    rw [show [41].length = 1 from rfl]
    omega
theorem txtAll_mem {b : Nat} : ∀ {ds : List PyData}, (∀ d ∈ ds, (txt d).length + 1 ≤ b) → (txtAll ds).length ≤ ds.length * b
  | [], _ => Nat.zero_le _
  | d :: ds, h => by
    have h1 := h d List.mem_cons_self
    have h2 := txtAll_mem (ds := ds) fun y hy => h y (List.mem_cons_of_mem _ hy)
    rw [txtAll, List.length_append, List.length_cons, List.length_cons, Nat.succ_mul]
    omega
theorem gdAll_of : ∀ {ds : List PyData}, (∀ d ∈ ds, gd d = true) → gdAll ds = true
  | [], _ => rfl
  | d :: ds, h => by
    rw [gdAll, h d List.mem_cons_self, gdAll_of fun y hy => h y (List.mem_cons_of_mem _ hy)]
    rfl
theorem depAll_of {n : Nat} : ∀ {ds : List PyData}, (∀ d ∈ ds, dep d ≤ n) → depAll ds ≤ n
  | [], _ => Nat.zero_le _
  | d :: ds, h => by
    have h1 := h d List.mem_cons_self
    have h2 := depAll_of (ds := ds) fun y hy => h y (List.mem_cons_of_mem _ hy)
    rw [depAll]
    omega
theorem gd_nbV {p : Int} (hp : p ≤ 100) (w : Str) : gd (nbV p w) = true ∧ dep (nbV p w) = 0 := by
  rcases nbV_or p w with e | ⟨n, e, h, _⟩
  · rw [e]; exact ⟨rfl, rfl⟩
  · rw [e]
    refine ⟨?_, rfl⟩
    simp only [gd, Bool.and_eq_true, decide_eq_true_eq]
    omega
theorem gd_rwV {p k : Int} (hp : p ≤ 100) (w : Str) : gd (rwV p k w) = true ∧ dep (rwV p k w) ≤ 1 := by
  unfold rwV
  rcases nbsV_or (Txt.split w ",") k p with e | ⟨e, _⟩
  · rw [e]; exact ⟨rfl, Nat.zero_le _⟩
  · rw [e]
    refine ⟨gdAll_of fun d hd => ?_, Nat.succ_le_succ (depAll_of (n := 0) fun d hd => ?_)⟩
    · obtain ⟨y, _, rfl⟩ := List.mem_map.mp hd
      exact (gd_nbV hp y).1
    · obtain ⟨y, _, rfl⟩ := List.mem_map.mp hd
      exact Nat.le_of_eq (gd_nbV hp y).2
theorem gd_rrV {p k : Int} (hp : p ≤ 100) (z : Str) : gd (rrV p k z) = true ∧ dep (rrV p k z) ≤ 2 := by
  rcases rrV_or p k z with e | ⟨ws, e0, e, _⟩
  · rw [e]; exact ⟨rfl, Nat.zero_le _⟩
  · rw [e]
    refine ⟨gdAll_of fun d hd => ?_, Nat.succ_le_succ (depAll_of (n := 1) fun d hd => ?_)⟩
    · obtain ⟨y, _, rfl⟩ := List.mem_map.mp hd
      exact (gd_rwV hp y).1
    · obtain ⟨y, _, rfl⟩ := List.mem_map.mp hd
      exact (gd_rwV hp y).2
/-- a text that comes up -/
def TextOk (text : Str) : Prop := ∃ zs, LB zs 20 ∧ text = Txt.join "\n" zs
theorem TextOk.split {text : Str} (h : TextOk text) : ∃ z0 ls, Txt.split text "\n" = z0 :: ls ∧ Lk z0 ∧ (∀ z ∈ ls, Lk z) ∧ ls.length ≤ 19 ∧ text = Txt.join "\n" (z0 :: ls) := by
  obtain ⟨zs, ⟨h0, hl, hz⟩, rfl⟩ := h
  rw [split_join nlS h0 fun y hy hc => ((hz y hy).1 10 hc).2 rfl]
  cases zs with
  | nil => exact absurd rfl h0
  | cons z0 ls =>
    rw [List.length_cons] at hl
    exact ⟨z0, ls, rfl, hz z0 List.mem_cons_self, fun z hzz => hz z (List.mem_cons_of_mem _ hzz), by omega, rfl⟩
theorem TextOk.asc {text : Str} (h : TextOk text) : (∀ c ∈ tl text, c < 128) ∧ text.length ≤ 2000 := by
  obtain ⟨zs, ⟨h0, hl, hz⟩, rfl⟩ := h
  constructor
  · intro c hc
    rw [tl_join (c := 10) (by decide +kernel)] at hc
    rcases glue_mem hc with rfl | ⟨p, hp, h2⟩
    · decide
    · obtain ⟨y, hy, rfl⟩ := List.mem_map.mp hp
      exact ((hz y hy).1 c h2).1
  · have h1 := join_len "\n" zs
    have h2 := sum_le (f := fun z : Str => z.length) (b := 90) (xs := zs) fun z hz' => (hz z hz').2.1
    rw [show (("\n" : Str)).length = 1 by decide +kernel] at h1
    omega
/-- what the book of such a text is -/
structure RdOk (p k : Int) (ls : List Str) : Prop where
  pn : okN p
  kn : okN k
  hb : okB (hrI p k ls)
  sh : ShOk (.tuple [.int p, .int k, hsD (hrI p k ls)])
theorem rd_ok {z0 : Str} {ls : List Str} {p k : Int} (hz0 : Lk z0) (hz : ∀ z ∈ ls, Lk z) (hl : ls.length ≤ 19) (h : hdV z0 = .tuple [.int p, .int k]) : RdOk p k ls := by
  obtain ⟨p', k', e1, e2, hp, hk, a, b, c, hs, ha, hb, hc, hp0⟩ := hdV_pk h
  cases e1
  cases e2
  have hp31 := hz0.2.2.1 a b c hs ha p hb
  have hk1 := hz0.2.2.2 a b c hs ha k hc
  have hI : (hrI p k ls).length = (hrV p k ls).length := by unfold hrI; rw [List.length_map]
  have hle : (hrV p k ls).length ≤ ls.length := by
    have := (List.takeWhile_prefix (p := fun d => !isNon d) (l := ls.map (rrV p k))).length_le
    rw [List.length_map] at this
    exact this
  have hmem : ∀ d ∈ hrV p k ls, ∃ z ∈ ls, d = rrV p k z := fun d hd => by
    obtain ⟨z, hzl, rfl⟩ := List.mem_map.mp ((List.takeWhile_sublist _).subset hd)
    exact ⟨z, hzl, rfl⟩
  refine ⟨⟨hp0, by omega⟩, ⟨by omega, by omega⟩, ⟨fun rs hr => ?_, by omega⟩, ?_⟩
  · obtain ⟨z, hzl, g1, g2⟩ := hrI_mem hr
    have hzz := (hz z hzl).2.1
    have hf := sp_free z
    refine ⟨fun r hr2 => ?_, by omega⟩
    obtain ⟨g3, w, hw, hw2⟩ := g2 r hr2
    have h1 := split_le w ","
    have h2 : w.length ≤ z.length := part_short hw
    exact ⟨fun i hi => ⟨(g3.2 i hi).1, by have := (g3.2 i hi).2; omega⟩, by omega⟩
  · rw [hrI_D]
    refine gd_sh ?_ ?_ ?_
    · have h1 : gdAll (hrV p k ls) = true := gdAll_of fun d hd => by
        obtain ⟨z, _, rfl⟩ := hmem d hd
        exact (gd_rrV (by omega) z).1
      simp only [gd, gdAll, h1, Bool.and_eq_true, decide_eq_true_eq, and_true]
      omega
    · have h1 : depAll (hrV p k ls) ≤ 2 := depAll_of fun d hd => by
        obtain ⟨z, _, rfl⟩ := hmem d hd
        exact (gd_rrV (by omega) z).2
      show max 0 (max 0 (max (depAll (hrV p k ls) + 1) 0)) + 1 ≤ 64
      omega
    · have h1 := txtAll_mem (b := 1000) (ds := hrV p k ls) fun d hd => by
        obtain ⟨z, hzl, rfl⟩ := hmem d hd
        exact txt_rrV (by omega) (hz z hzl).2.1
      have h2 : (numL p.toNat).length ≤ 40 := numL_len (k := 40) (by decide) (by omega)
      have h3 : (numL k.toNat).length ≤ 40 := numL_len (k := 40) (by decide) (by omega)
      show (40 :: ((numL p.toNat ++ (44 :: (numL k.toNat ++ (44 :: ((40 :: (txtAll (hrV p k ls) ++ [41])) ++ (44 :: [])))))) ++ [41])).length ≤ _
      simp only [List.length_cons, List.length_append, List.length_nil]
      omega
end Mh

namespace Mh
open PySem PySem.Spec PyProof.Rows L2 TL
local macro_rules | `(tactic| k_updF) => `(tactic| try simp only [gV_some, gI0_i, gII_i, gAdd_i, gAdd_s, gAdd_t, gAdd_nn, gAdd_on, gAdd_no, gMul_i, gNon_d, gNeg_i, gPart_i, gSl_s, gSl_t, gSl_o, gSl_n, gSl_l, gLen_s, gLen_t, gLen_l, gLen_o, gLen_n, gInt_i, gStr_i, gTupC_n, gTupC_o, gTupC_l, gTupC_t, gII2_i, gB_b, gTr_b, gIf_t, gIf_f, gTx_s, gSplit_s, gRng1_i, gRng2_i, gR1_i, gOwn_o, gItem_d, gItem_n, gAug_i, gInt1_i, gPair_t, gFmt_s, gFmt_i, gJn_s, NxA, RtK, rdK, List.length_cons, List.length_nil, Nat.reduceAdd, Nat.reduceSub, Nat.reduceLT, List.replicate_succ, List.replicate_zero, List.cons_append, List.nil_append, List.append_nil, List.getElem?_cons_zero, List.getElem?_cons_succ, List.set_cons_zero, List.set_cons_succ, true_and, and_true, isNon_n, isNon_i, isNon_b, isNon_s, isNon_t, isNon_l, isNon_d, Bool.not_true, Bool.not_false, id_eq, lcR, notOwn, gIsi_int_none, gIsi_int_bool, gIsi_int_int, gIsi_int_str, gIsi_int_tuple, gIsi_int_list, gIsi_int_own, gIsi_int_new, gIsi_bool_none, gIsi_bool_bool, gIsi_bool_int, gIsi_bool_str, gIsi_bool_tuple, gIsi_bool_list, gIsi_bool_own, gIsi_bool_new, gIsi_tuple_none, gIsi_tuple_bool, gIsi_tuple_int, gIsi_tuple_str, gIsi_tuple_tuple, gIsi_tuple_list, gIsi_tuple_own, gIsi_tuple_new, gIsi_str_none, gIsi_str_bool, gIsi_str_int, gIsi_str_str, gIsi_str_tuple, gIsi_str_list, gIsi_str_own, gIsi_str_new, gIsi_list_none, gIsi_list_bool, gIsi_list_int, gIsi_list_str, gIsi_list_tuple, gIsi_list_list, gIsi_list_own, gIsi_list_new])
local macro_rules | `(tactic| k_keys) => `(tactic| first | exact ⟨.inr rfl, rfl⟩ | exact .inr rfl | rfl | trivial | (refine ⟨.inr ?_, rfl⟩; assumption) | (refine .inr ?_; assumption))


/-! ### k79: _law_right -/
/-- two texts alone or two numbers alone, compared where nothing is known of the guards -/
def rReprH : List V → Hp → VK → Prop := fun xs H Q => (∃ z, xs = [.str z] ∧ ShOk (.str z) ∧ Q (.str (PyData.shown (.str z))) H) ∨ ∃ i : Int, xs = [.int i] ∧ i.natAbs.log2 < 1920 ∧ Q (.str (PyData.shown (.int i))) H
abbrev t_sameH (K : PySem.W.Frag) : TS := tRet (tAndV (tOp (rEqP K) (tVar 0) (tVar 1)) (tOp (rEqP K) (tCB rReprH (tCons (tVar 0) tNil)) (tCB rReprH (tCons (tVar 1) tNil))))
def A_sameH : At := fun ks S Z => ∃ d : PyData, ks = [.dat d, .dat d] ∧ ((∃ z, d = .str z ∧ ShOk (.str z)) ∨ ∃ i : Int, d = .int i ∧ i.natAbs.log2 < 1920) ∧ (S = fun k => k = .dat (.bool true)) ∧ Z = noZ
abbrev sp_sameH (K : PySem.W.Frag) : Sp := SpP K A_sameH
def A_rgt : At := fun ks S Z => ∃ text : Str, ks = [.dat (.str text)] ∧ TextOk text ∧ (S = fun k => k = .dat (.bool true)) ∧ Z = noZ
abbrev sp_law_right (K : PySem.W.Frag) : Sp := SpP K A_rgt
abbrev s_rgt (K : PySem.W.Frag) (D : Addr) (a : Addr) (cls : Value) (d : Option Addr) : TS := tRet (tAndV (tOp (rEqP K) (tCB (rLenP K) (tCons (tVar 1) tNil)) (tC (.int 1))) (tAndV (tCall (sp_sameH K) [] E0 (tCons (tVar 0) (tCons (tXf a cls d D "text" (tVar 3)) tNil))) (tCall (sp_sameH K) [] E0 (tCons (tOp (rIx K) (tVar 1) (tC (.int 0))) (tCons (tXf a cls d D "at" (tVar 3)) tNil)))))
abbrev t_rgt3 (K : PySem.W.Frag) : TS := tSeq (tIfS (tOr (tTest (tOp (rNeP K) (tCB (rLenP K) (tCons (tVar 1) tNil)) (tC (.int 3)))) (tOr (tNot (tTru K (tCB (rIsi K) (tCons (tVar 2) (tCons (tC (.ref (He.ga K "Book"))) tNil))))) (tNot (tTru K (tCall (sp_law_same K) [] E0 (tCons (tTup (tCons (tOp (rIx K) (tVar 1) (tC (.int 0))) (tCons (tOp (rIx K) (tVar 1) (tC (.int 1))) (tCons (tOp (rIx K) (tVar 1) (tC (.int 2))) tNil)))) (tCons (tTup (tCons (tFld K (tVar 2) "p") (tCons (tFld K (tVar 2) "k") (tCons (tFld K (tVar 2) "halls") tNil)))) tNil))))))) (tRet (tC (.bl false))) tNext)
  (tRet (tCall (sp_law_same K) [] E0 (tCons (tVar 0) (tCons (tCall (sp_write_book K) [] E0 (tCons (tVar 2) tNil)) tNil))))
abbrev t_rgt1 (K : PySem.W.Frag) : TS := tAsg (tCall (sp_law_read K) [] E0 (tCons (tVar 0) tNil)) (gName 1)
def t_law_right (K : PySem.W.Frag) (D : Addr) : TS := tSeq (t_rgt1 K) (tSeq (fun Dd σ H => tAsg (tCallS (sp_read_bookX K D) (L2.WE (wAs K (.ref D) 3 (s_rgt K D) (fun _ _ _ _ => False) Dd)) (tCons (tVar 0) tNil)) (gName 2) Dd σ H) (t_rgt3 K))
section
variable {K : PySem.W.Frag} {D : Addr} {vs : List V} {H : Hp} {Q : VK} {E : XK}
theorem bs_wp {C : Ct} {t : TS} {ρ : List Kd} {P : Po} {f : Ct → List Kd → Po → Prop} (w : WS K E t f) (hK : C.K = K) (hE : C.E = E) (h : f C ρ P) : BS C t ρ P := w.ok hK hE h
def gXf (a : Addr) (cls : Value) (d : Option Addr) (K : PySem.W.Frag) (D : Addr) (f : Str) (k : Kd) (S : Kd → Prop) : Prop := ∃ dd fv v e, k = .k (xk a dd fv) ∧ d = some dd ∧ cls = .ref D ∧ fv.lookup f = some v ∧ (∀ M, Dp K M v e) ∧ S (.dat e)
instance {a : Addr} {cls : Value} {d : Option Addr} {f : Str} {te : TE} {fa : XF} [b : WE K E te fa] : WE K E (tXf a cls d D f te) (fun C ρ S => fa C ρ fun k => gXf a cls d K D f k S) := ⟨fun hK hE h σ H rp Q q => by
  subst hK
  refine b.ok rfl hE h σ H rp _ fun k v H1 s1 r1 o1 => ?_
  obtain ⟨dd, fv, w, e, rfl, rfl, rfl, h1, h2, h3⟩ := s1
  exact ⟨o1.1, rfl, dd, fv, w, rfl, (msk_of o1.2).1, h1, q _ _ _ h3 r1 (h2 _)⟩⟩
theorem seq_of {C : Ct} {t u : TS} {ρ : List Kd} {P : Po} {N : List Kd → Prop} (h : BS C t ρ { P with nx := N }) (k : ∀ r, N r → BS C u r P) : BS C (tSeq t u) ρ P := b_seq fun σ H r D pd => h σ H r D ⟨fun ρ' σ' H' m r' => pd.nx ρ' σ' H' (k _ m) r', pd.rt, pd.bk, pd.ct⟩
theorem go_sameH (h : sp_sameH K vs H Q E) : t_sameH K { nx := fun _ H' => Q .non H', rt := Q } (L2.start ["due", "got"] vs) H := by
  refine sp_body ?_ h
  rintro H E ks S Z ⟨d, rfl, hd, rfl, rfl⟩ n _
  change BS ⟨K, noF, noJ, H, false, [], E, noZ⟩ _ [.dat d, .dat d] _
  generalize hC : (⟨K, noF, noJ, H, false, [], E, noZ⟩ : Ct) = C
  have hK : C.K = K := by rw [← hC]
  subst hK
  have hsh : SeqAt.shaped d = true := by
    rcases hd with ⟨z, rfl, hz⟩ | ⟨i, rfl, hi⟩
    · exact hz.sh
    · rfl
  have er : ∀ i, [Kd.dat d, .dat d][i]? = some (.dat d) → E1 C (tCB rReprH (tCons (tVar i) tNil)) [.dat d, .dat d] (.dat (.str (PyData.shown d))) := fun i hi σ H r Q q => (show E1 C (tVar i) _ (.dat d) from e_var hi) σ H r _ fun k' v H1 s1 r1 o1 => by
    subst s1
    rcases hd with ⟨z, rfl, hz⟩ | ⟨j, rfl, hj⟩
    · obtain rfl := dp_str o1
      exact .inl ⟨z, rfl, hz, q _ _ _ rfl r1 (.str _)⟩
    · obtain rfl := dp_int o1
      exact .inr ⟨j, rfl, hj, q _ _ _ rfl r1 (.str _)⟩
  have hrd : rdK (Kd.dat d) = true := rfl
  refine b_ret (e_and (a := true) (b := true) ((e_op1 (e_var (i := 0) (k := .dat d) rfl) (e_var (i := 1) (k := .dat d) rfl) (k_eq rfl rfl hsh hsh)).is ?_) fun _ => (e_op1 (er 0 rfl) (er 1 rfl) k_eq_s).is ?_) rfl rfl
  · rw [SeqAt.eqv_refl _ (SeqAt.canLay_of_shaped hsh)]
  · rw [decide_eq_true rfl]
theorem ldV_bad {z0 : Str} {ls : List Str} {n : Nat} (h : (hdV z0 = .none ∧ n = 0) ∨ ∃ p k, hdV z0 = .tuple [.int p, .int k] ∧ (hrV p k ls = [] ∨ (hrV p k ls).length < ls.length) ∧ n = 1 + (hrV p k ls).length) : ldV z0 ls = [.int (n : Nat)] := by
  unfold ldV
  rcases h with ⟨e, rfl⟩ | ⟨p, k, e, h2, rfl⟩
  · rw [e]
    rfl
  · rw [e]
    dsimp only
    by_cases h3 : (hrV p k ls).length < ls.length
    · rw [if_pos h3]
    · rw [if_neg h3]
      rcases h2 with h2 | h2
      · rw [h2] at h3 ⊢
        have : ls = [] := List.length_eq_zero_iff.mp (by
          have : ¬ 0 < ls.length := h3
          omega)
        rw [if_pos this]
        rfl
      · exact absurd h2 h3
theorem ldV_good {z0 : Str} {ls : List Str} {p k : Int} (e : hdV z0 = .tuple [.int p, .int k]) (h0 : hrV p k ls ≠ []) (hl : (hrV p k ls).length = ls.length) : ldV z0 ls = [.int p, .int k, .tuple (hrV p k ls)] := by
  unfold ldV
  rw [e]
  dsimp only
  rw [if_neg (by omega), if_neg]
  intro e2
  subst e2
  exact h0 (List.length_eq_zero_iff.mp hl)
theorem go_law_right (B : BkC K) (hD : PySem.W.exmOne K (.ref D) (.ref D) = some true) (h : sp_law_right K vs H Q E) : t_law_right K D { nx := fun _ H' => Q .non H', rt := Q } (L2.start ["text", "due", "book", "e"] vs) H := by
  refine sp_body ?_ h
  rintro H E ks S Z ⟨text, rfl, ht, rfl, rfl⟩ n _
  change BS ⟨K, noF, noJ, H, false, [], E, noZ⟩ _ [.dat (.str text), .un, .un, .un] _
  generalize hC : (⟨K, noF, noJ, H, false, [], E, noZ⟩ : Ct) = C
  have hK : C.K = K := by rw [← hC]
  subst hK
  have big := sl_big
  obtain ⟨z0, ls, hs, hz0, hz, hl, htx⟩ := ht.split
  obtain ⟨hasc, hlen⟩ := ht.asc
  have tsh : ShOk (.str text) := str_sh hasc (by omega)
  have hzz : ∀ z ∈ z0 :: ls, z.length ≤ 640 := fun z hm => by
    rcases List.mem_cons.mp hm with rfl | hm
    · have := hz0.2.1; omega
    · have := (hz z hm).2.1; omega
  refine seq_of (N := fun ρ => ∃ l, ρ = [.dat (.str text), .own l (ldV z0 ls), .un, .un]) (bs_wp (inferInstance : WS C.K C.E (t_rgt1 C.K) _) rfl rfl ?_) ?_
  · k_updF
    refine gCall_of (A := A_lrd) rfl ⟨text, z0, ls, rfl, by omega, hs, hz0.2.2.1, hzz, by omega, rfl, rfl⟩ (imp_eq ?_)
    k_updF
    exact fun l => ⟨l, rfl⟩
  rintro _ ⟨l, rfl⟩
  refine b_seq (b_tryX (C := C) (ρ := [.dat (.str text), .own l (ldV z0 ls), .un, .un]) (A := A_rb C.K D) (ks' := [.dat (.str text)]) (i := 3) (j := 2) (a_cons (e_var rfl) a_nil) (.cons (.dat fun h => by cases h) .nil) ⟨text, z0, ls, rfl, by omega, hs, hz0.2.2.1.le, hzz, by omega, rfl, rfl⟩ ?_ ?_)
  · rintro _ ⟨a, p, k, e, h0, hle, rfl⟩
    have rk := rd_ok hz0 hz hl e
    rw [ldV_good e h0 hle]
    show BS C (t_rgt3 C.K) [.dat (.str text), .own l _, .dat (bkD C.K a p k (hrI p k ls)), .un] _
    refine bs_wp (inferInstance : WS C.K C.E (t_rgt3 C.K) _) rfl rfl ?_
    k_updF
    refine gEq_i ?_
    show gB (.dat (.bool false)) _
    k_updF
    refine gIsO_t B.cls ?_
    k_updF
    refine gIx_of (ds := [PyData.int p, .int k, .tuple (hrV p k ls)]) (d := .int p) rfl (at_nat (n := 0) rfl) ?_
    refine gIx_of (ds := [PyData.int p, .int k, .tuple (hrV p k ls)]) (d := .int k) rfl (at_nat (n := 1) rfl) ?_
    refine gIx_of (ds := [PyData.int p, .int k, .tuple (hrV p k ls)]) (d := .tuple (hrV p k ls)) rfl (at_nat (n := 2) rfl) ?_
    rw [← hrI_D]
    refine gTupK_of (ds := [.int p, .int k, hsD (hrI p k ls)]) rfl (by show 3 ≤ _; omega) ?_
    refine gFld_of ⟨B.cls.cls, B.np⟩ rfl (gFld_of ⟨B.cls.cls, B.nk⟩ rfl (gFld_of ⟨B.cls.cls, B.nh⟩ rfl ?_))
    refine gTupK_of (ds := [.int p, .int k, hsD (hrI p k ls)]) rfl (by show 3 ≤ _; omega) ?_
    refine gCall_of (A := A_same) rfl ⟨_, _, rfl, rk.sh, rk.sh, rfl, rfl⟩ (imp_eq ?_)
    rw [same_self rk.sh.sh]
    k_updF
    refine gCall_of (A := A_wb C.K) rfl ⟨a, p, k, _, rfl, rk.pn, rk.kn, rk.hb, rfl, rfl⟩ (imp_eq ?_)
    rw [book_back e hle, ← htx]
    refine gCall_of (A := A_same) rfl ⟨_, _, rfl, tsh, tsh, rfl, rfl⟩ (imp_eq ?_)
    rw [same_self tsh.sh]
    k_updF
    k_keys
  · rintro cls fs ⟨rfl, n, hn, rfl⟩
    refine ⟨hD, fun a dd fv ⟨M, fo⟩ => ?_⟩
    obtain ⟨fv, rfl⟩ : ∃ w : Unit, fv = [(("at" : Str), V.int (n : Int)), (("text" : Str), V.str text)] := by
      match fv, fo with
      | [(x1, v1), (x2, v2)], ⟨e1, p1, e2, p2, _⟩ =>
        rw [e1, e2, dp_int p1, dp_str p2]
        exact ⟨(), rfl⟩
    rw [ldV_bad hn]
    show BS C (s_rgt C.K D a (.ref D) (some dd)) [.dat (.str text), .own l _, .un, .k (xk a dd _)] _
    refine bs_wp (inferInstance : WS C.K C.E (s_rgt C.K D a (.ref D) (some dd)) _) rfl rfl ?_
    k_updF
    refine gEq_i ?_
    show gB (.dat (.bool true)) _
    k_updF
    refine ⟨dd, _, _, _, rfl, rfl, rfl, rfl, fun M => .str _, ?_⟩
    refine gCall_of (A := A_sameH) rfl ⟨.str text, rfl, .inl ⟨text, rfl, tsh⟩, rfl, rfl⟩ (imp_eq ?_)
    k_updF
    refine gIx_of (ds := [PyData.int (n : Nat)]) (d := .int (n : Nat)) rfl (at_nat (n := 0) rfl) ?_
    refine ⟨dd, _, _, _, rfl, rfl, rfl, rfl, fun M => .int _, ?_⟩
    refine gCall_of (A := A_sameH) rfl ⟨.int (n : Nat), rfl, .inr ⟨_, rfl, ?_⟩, rfl, rfl⟩ (imp_eq ?_)
    · have : n ≤ 100 := by
        rcases hn with ⟨_, h⟩ | ⟨p, k, _, _, h⟩
        · omega
        · have : (hrV p k ls).length ≤ ls.length := by
            have := (List.takeWhile_prefix (p := fun d => !isNon d) (l := ls.map (rrV p k))).length_le
            rw [List.length_map] at this
            exact this
          omega
      exact log_lt (by omega) (by omega)
    k_updF
    k_keys
end
end Mh

namespace Mh
open PySem PySem.Spec PyProof.Rows L2 TL
local macro_rules | `(tactic| k_updF) => `(tactic| try simp only [gV_some, gI0_i, gII_i, gAdd_i, gAdd_s, gAdd_t, gAdd_nn, gAdd_on, gAdd_no, gMul_i, gNon_d, gNeg_i, gPart_i, gSl_s, gSl_t, gSl_o, gSl_n, gSl_l, gLen_s, gLen_t, gLen_l, gLen_o, gLen_n, gInt_i, gStr_i, gTupC_n, gTupC_o, gTupC_l, gTupC_t, gII2_i, gB_b, gTr_b, gIf_t, gIf_f, gTx_s, gSplit_s, gRng1_i, gRng2_i, gR1_i, gOwn_o, gItem_d, gItem_n, gAug_i, gInt1_i, gPair_t, gFmt_s, gFmt_i, gJn_s, NxA, RtK, rdK, List.length_cons, List.length_nil, Nat.reduceAdd, Nat.reduceSub, Nat.reduceLT, List.replicate_succ, List.replicate_zero, List.cons_append, List.nil_append, List.append_nil, List.getElem?_cons_zero, List.getElem?_cons_succ, List.set_cons_zero, List.set_cons_succ, true_and, and_true, isNon_n, isNon_i, isNon_b, isNon_s, isNon_t, isNon_l, isNon_d, Bool.not_true, Bool.not_false, id_eq, lcR, notOwn, gIsi_int_none, gIsi_int_bool, gIsi_int_int, gIsi_int_str, gIsi_int_tuple, gIsi_int_list, gIsi_int_own, gIsi_int_new, gIsi_bool_none, gIsi_bool_bool, gIsi_bool_int, gIsi_bool_str, gIsi_bool_tuple, gIsi_bool_list, gIsi_bool_own, gIsi_bool_new, gIsi_tuple_none, gIsi_tuple_bool, gIsi_tuple_int, gIsi_tuple_str, gIsi_tuple_tuple, gIsi_tuple_list, gIsi_tuple_own, gIsi_tuple_new, gIsi_str_none, gIsi_str_bool, gIsi_str_int, gIsi_str_str, gIsi_str_tuple, gIsi_str_list, gIsi_str_own, gIsi_str_new, gIsi_list_none, gIsi_list_bool, gIsi_list_int, gIsi_list_str, gIsi_list_tuple, gIsi_list_list, gIsi_list_own, gIsi_list_new])
local macro_rules | `(tactic| k_keys) => `(tactic| first | exact ⟨.inr rfl, rfl⟩ | exact .inr rfl | rfl | trivial | (refine ⟨.inr ?_, rfl⟩; assumption) | (refine .inr ?_; assumption))


/-! ### k79: _law_all, law -/
def sp_law_all (K : PySem.W.Frag) : Sp := fun vs H Q E => ∃ (l : Addr) (ns : List Int), vs = [.ref l] ∧ SqL K H l (ns.map V.int) ∧ ∀ H', Q (.bl true) H'
def sp_law (K : PySem.W.Frag) : Sp := sp_law_all K
abbrev t_all2 (K : PySem.W.Frag) : TS := (tSeq (tFor (iRng1 (tCons (tC (.int 6)) tNil)) (gName 2) (tSeq (tAsg (tOp (rIx K) (tLst (tCons (tC (.int 2)) (tCons (tC (.int 3)) (tCons (tC (.int 5)) (tCons (tC (.int 7)) (tCons (tC (.int 11)) (tCons (tC (.int 13)) (tCons (tC (.int 17)) (tCons (tC (.int 19)) (tCons (tC (.int 23)) (tCons (tC (.int 29)) (tCons (tC (.int 31)) tNil)))))))))))) (tCall (sp_law_draw K) [] E0 (tCons (tVar 1) (tCons (tC (.int 11)) tNil)))) (gName 3))
  (tSeq (tAsg (tOp (rAddP K) (tC (.int 1)) (tCall (sp_law_draw K) [] E0 (tCons (tVar 1) (tCons (tC (.int 4)) tNil)))) (gName 4))
  (tSeq (tAsg (tLst (tCons (tOp (rAddP K) (tOp (rAddP K) (tOp (rAddP K) (tC (.str "book ")) (tCB (rStrP) (tCons (tVar 3) tNil))) (tC (.str " "))) (tCB (rStrP) (tCons (tVar 4) tNil))) tNil)) (gName 5))
  (tSeq (tFor (iRng1 (tCons (tOp (rAddP K) (tC (.int 1)) (tCall (sp_law_draw K) [] E0 (tCons (tVar 1) (tCons (tC (.int 6)) tNil)))) tNil)) (gName 6) (tSeq (tAsg (tLc (iRng1 (tCons (tOp (rIx K) (tLst (tCons (tC (.int 1)) (tCons (tC (.int 1)) (tCons (tC (.int 2)) (tCons (tC (.int 0)) tNil))))) (tCall (sp_law_draw K) [] E0 (tCons (tVar 1) (tCons (tC (.int 4)) tNil)))) tNil)) (gName 8) tYes (tCall (sp_law_row_text K) [] E0 (tCons (tVar 1) (tCons (tVar 3) (tCons (tVar 4) tNil)))) [8]) (gName 7))
  (tDrop (tBM K "list" rAppend (tVar 5) (tCons (tM1 (rJoin K) (tC (.str " ")) (tOp (rAddP K) (tLst (tCons (tC (.str "hall")) tNil)) (tVar 7))) tNil)))))
  (tIfS (tOr (tNot (tTru K (tCall (sp_law_right K) [] E0 (tCons (tM1 (rJoin K) (tC (.str "\n")) (tVar 5)) tNil)))) (tNot (tTru K (tCall (sp_law_right K) [] E0 (tCons (tM1 (rJoin K) (tC (.str "\n")) (tCall (sp_law_bent K) [] E0 (tCons (tVar 1) (tCons (tVar 3) (tCons (tVar 4) (tCons (tVar 5) tNil)))))) tNil))))) (tRet (tC (.bl false))) tNext))))))
  (tRet (tAndV (tCall (sp_law_right K) [] E0 (tCons (tOp (rIx K) (tVar 5) (tC (.int 0))) tNil)) (tAndV (tCall (sp_law_right K) [] E0 (tCons (tC (.str "")) tNil)) (tCall (sp_law_right K) [] E0 (tCons (tOp (rAddP K) (tM1 (rJoin K) (tC (.str "\n")) (tVar 5)) (tC (.str "\n"))) tNil))))))
abbrev t_law_all (K : PySem.W.Frag) : TS := (tSeq (tAsg (tCall (sp_law_box K) [] E0 (tCons (tVar 0) tNil)) (gName 1))
  (t_all2 K))
abbrev t_law (K : PySem.W.Frag) : TS := (fun D σ H => (tRet (tCall (sp_law_all K) [] E0 (tCons (tVar 0) tNil))) D σ H)

theorem LB.text {zs : List Str} {n : Nat} (h : LB zs n) (hn : n ≤ 20) : TextOk (Txt.join "\n" zs) := ⟨zs, ⟨h.1, by have := h.2.1; omega, h.2.2⟩, rfl⟩
theorem jn_ok {zs : List Str} {n : Nat} (h : LB zs n) (hn : n ≤ 20) : (zs.map (·.length)).sum + zs.length * ("\n" : Str).length ≤ 16777216 := by
  have h2 := sum_le (f := fun z : Str => z.length) (b := 90) (xs := zs) fun z hz' => (h.2.2 z hz').2.1
  have := h.2.1
  rw [show (("\n" : Str)).length = 1 by decide +kernel]
  omega
theorem join_one (z a : Str) : Txt.join z [a] = a := StrLaws.glued_eq_join z [a]
theorem TextOk.one {z : Str} (h : Lk z) : TextOk z := ⟨[z], ⟨by simp, by show 1 ≤ 20; omega, fun y hy => by rw [List.mem_singleton.mp hy]; exact h⟩, (join_one _ _).symm⟩
theorem glue_snoc {c : Nat} : ∀ {ps : List (List Nat)}, ps ≠ [] → glue c (ps ++ [[]]) = glue c ps ++ [c]
  | [], h => absurd rfl h
  | [p], _ => rfl
  | p :: q :: r, _ => by
    have := glue_snoc (c := c) (ps := q :: r) (by simp)
    show p ++ c :: glue c ((q :: r) ++ [[]]) = (p ++ c :: glue c (q :: r)) ++ [c]
    rw [this]
    simp
theorem join_snoc {zs : List Str} (h : zs ≠ []) : Txt.join "\n" (zs ++ [("" : Str)]) = Txt.join "\n" zs ++ ("\n" : Str) := by
  refine ext_tl ?_
  have nl1 : tl ("\n" : Str) = [10] := by decide +kernel
  rw [tl_append, tl_join nl1, tl_join nl1, nl1, List.map_append]
  exact glue_snoc (ps := zs.map tl) (by simpa using h)
theorem LB.snoc {zs : List Str} {n : Nat} (h : LB zs n) : LB (zs ++ [("" : Str)]) (n + 1) := ⟨by simp, by rw [List.length_append]; have := h.2.1; show _ + 1 ≤ _; omega, fun y hy => by
  rcases List.mem_append.mp hy with hy | hy
  · exact h.2.2 y hy
  · rw [List.mem_singleton.mp hy]; exact lk_nil⟩
theorem hall_ck {rs : List Str} (h : ∀ r ∈ rs, Rk r) (hl : rs.length ≤ 2) : Lk (Txt.join " " (("hall" : Str) :: rs)) := by
  refine Ck.lk (fun c hc => ?_) ?_
  · rw [tl_join (c := 32) (by decide +kernel)] at hc
    rcases glue_mem hc with rfl | ⟨p, hp, h2⟩
    · decide
    · obtain ⟨y, hy, rfl⟩ := List.mem_map.mp hp
      rcases List.mem_cons.mp hy with rfl | hy
      · exact ckB (z := ("hall" : Str)) (by decide +kernel) c h2
      · exact (h y hy).ck c h2
  · have h1 := join_len " " (("hall" : Str) :: rs)
    have h2 : (rs.map (·.length)).sum ≤ rs.length * 11 := sum_le fun x hx => (h x hx).2
    rw [List.map_cons, List.sum_cons, List.length_cons, show ((" " : Str)).length = 1 by decide +kernel, show (("hall" : Str)).length = 4 by decide +kernel] at h1
    omega
section
variable {K : PySem.W.Frag} {D : Addr} {vs : List V} {H : Hp} {Q : VK} {E : XK}
theorem go_law_all (h : sp_law_all K vs H Q E) : t_law_all K { nx := fun _ H' => Q .non H', rt := Q } (L2.start ["script", "box", "turn", "p", "k", "lines", "h", "rows", "r"] vs) H := by
  obtain ⟨l, ns, rfl, sq, fin⟩ := h
  refine ⟨.ref l, rfl, l, ns, rfl, sq, fun b g c H1 hb hg hc j old => ?_⟩
  have ib : InB ⟨K, BF b g c, BJ b g c, H1, true, [], fun _ _ _ => False, noZ⟩ b := ⟨g, c, rfl, rfl⟩
  have r0 : Rep ⟨K, BF b g c, BJ b g c, H1, true, [], fun _ _ _ => False, noZ⟩ [some (.ref l), some (.ref b), none, none, none, none, none, none, none] H1 [.un, bx b, .un, .un, .un, .un, .un, .un, .un] := by
    have cases9 : ∀ {i : Nat} {k : Kd}, [Kd.un, bx b, .un, .un, .un, .un, .un, .un, .un][i]? = some k → (i = 1 ∧ k = bx b) ∨ k = .un := fun {i k} e => by
      match i with
      | 0 => cases e; exact .inr rfl
      | 1 => cases e; exact .inl ⟨rfl, rfl⟩
      | 2 => cases e; exact .inr rfl
      | 3 => cases e; exact .inr rfl
      | 4 => cases e; exact .inr rfl
      | 5 => cases e; exact .inr rfl
      | 6 => cases e; exact .inr rfl
      | 7 => cases e; exact .inr rfl
      | 8 => cases e; exact .inr rfl
      | i + 9 => simp at e
    refine ⟨box_ok j, j, fun a o e _ => e, rfl, fun i j l ds es e => ?_, fun l o => ?_, fun i k e => ?_, fun p hp => by cases hp⟩
    · rcases cases9 e with ⟨_, h⟩ | h <;> cases h
    · obtain ⟨i, ds, e⟩ := o
      rcases cases9 e with ⟨_, h⟩ | h <;> cases h
    · rcases cases9 e with ⟨rfl, rfl⟩ | rfl
      · exact ⟨_, rfl, rfl⟩
      · trivial
  have pd : ∀ C : Ct, Pd C { rt := fun k => k = .dat (.bool true) } { nx := fun _ H' => Q .non H', rt := Q } := fun C => ⟨fun _ _ _ z => z.elim, fun k v H' z ro => by
    subst z
    obtain rfl : v = .bl true := dp_bl ro.2
    exact fin H', fun _ _ _ z => z.elim, fun _ _ _ z => z.elim⟩
  have use : ∀ t : TS, BS ⟨K, BF b g c, BJ b g c, H1, true, [], fun _ _ _ => False, noZ⟩ t [.un, bx b, .un, .un, .un, .un, .un, .un, .un] { rt := fun k => k = .dat (.bool true) } → t { nx := fun _ H' => Q .non H', rt := Q } [some (.ref l), some (.ref b), none, none, none, none, none, none, none] H1 := fun t h => h _ _ r0 _ (pd _)
  refine use (t_all2 K) ?_
  clear use
  generalize hC : (⟨K, BF b g c, BJ b g c, H1, true, [], fun _ _ _ => False, noZ⟩ : Ct) = C at ib
  have hK : C.K = K := by rw [← hC]
  have hfr : C.fr = true := by rw [← hC]
  clear r0 pd fin
  rw [← hK]
  have big := sl_big
  refine bs_wp (inferInstance : WS C.K C.E (t_all2 C.K) _) rfl rfl ?_
  k_updF
  refine ⟨by decide, by decide, fun n ρ => ∃ x2 x3 x4 x5 x6 x7 x8, ρ = [.un, bx b, x2, x3, x4, x5, x6, x7, x8] ∧ notOwn (some x8) = true ∧ (0 < n → ∃ l zs, LB zs 7 ∧ x5 = .own l (zs.map .str)), ⟨_, _, _, _, _, _, _, rfl, rfl, fun h => by omega⟩, ?_, ?_⟩
  · rintro n _ hn ⟨x2, x3, x4, x5, x6, x7, x8, rfl, hx8, _⟩
    k_updF
    refine gLstK_of (ds := primesL.map .int) rfl (by show 11 ≤ _; omega) ?_
    refine gDraw ib (by decide) (by decide) fun d d0 d1 => ?_
    obtain ⟨u, e3, e4⟩ := at_set (xs := primesL.map PyData.int) (n := 11) rfl d0 d1
    obtain ⟨p, hp, rfl⟩ := List.mem_map.mp e4
    have p1 := prim_le hp
    refine gIx_of rfl e3 ?_
    k_updF
    refine gDraw ib (by decide) (by decide) fun d d0 d1 => ?_
    k_updF
    obtain ⟨k, hk, ek⟩ : ∃ k, k ∈ [(1 : Int), 2, 3, 4] ∧ 1 + d = k := ⟨1 + d, by simp only [List.mem_cons, List.not_mem_nil, or_false]; omega, rfl⟩
    rw [ek]
    have k1 := four_le hk
    have lp := nT_len2 (i := p) (by omega) (by omega)
    have lk := nT_len2 (i := k) (by omega) (by omega)
    have e1 : ((toString p : String) : Str) = nT p := rfl
    have e2 : ((toString k : String) : Str) = nT k := rfl
    have n1 : (("book " : Str)).length = 5 ∧ ((" " : Str)).length = 1 ∧ (("hall" : Str)).length = 4 := by decide +kernel
    obtain ⟨n1, n2, n3⟩ := n1
    k_updF
    rw [e1, e2]
    refine ⟨log_lt (by omega) (by omega), by omega, by rw [str_app_len]; omega, log_lt (by omega) (by omega), by rw [str_app_len, str_app_len]; omega, ?_⟩
    refine gLstK_of (ds := [headG p k].map .str) rfl (by show 1 ≤ _; omega) ?_
    k_updF
    intro l0
    refine gDraw ib (by decide) (by decide) fun d6 d60 d61 => ?_
    k_updF
    refine ⟨by omega, by omega, fun m ρ => ∃ l zs x6 x7 x8, LB zs (1 + m) ∧ notOwn (some x8) = true ∧ ρ = [.un, bx b, .dat (.int (0 + (n : Int))), .dat (.int p), .dat (.int k), .own l (zs.map .str), x6, x7, x8], ⟨l0, [headG p k], _, _, _, ⟨by simp, Nat.le_refl _, fun z hz => ?_⟩, hx8, rfl⟩, ?_, ?_⟩
    · rw [List.mem_singleton.mp hz]
      exact LkB_ok (head_all p hp k hk).1
    · rintro m _ hm ⟨l, zs, x6, x7, x8, hzs, hx8, rfl⟩
      k_updF
      refine gLstK_of (ds := [1, 1, 2, 0].map .int) rfl (by show 4 ≤ _; omega) ?_
      refine gDraw ib (by decide) (by decide) fun d d0 d1 => ?_
      obtain ⟨u, e3, e4⟩ := at_set (xs := [1, 1, 2, 0].map PyData.int) (n := 4) rfl d0 d1
      obtain ⟨q, hq, rfl⟩ := List.mem_map.mp e4
      have q1 : 0 ≤ q ∧ q ≤ 2 := by
        simp only [List.mem_cons, List.not_mem_nil, or_false] at hq
        omega
      refine gIx_of rfl e3 ?_
      k_updF
      refine ⟨by omega, by omega, gLc_all (fun d => ∃ z : Str, Rk z ∧ d = .str z) hx8 (by rw [intsL_len]; omega) (fun ρ S s => s) ?_ ?_⟩
      · intro n a ea S s
        k_updF
        refine gCallB_of (A := A_lrt) ib (.cons a_bx (.cons (.dat fun _ => rfl) (.cons (.dat fun _ => rfl) .nil))) ⟨p, k, rfl, p1.1, p1.2, k1.1, k1.2, rfl, rfl⟩ ?_
        rintro _ ⟨r, hr, rfl⟩
        exact s _ rfl ⟨r, hr, rfl⟩
      · intro acc hl ha
        rw [intsL_len] at hl
        obtain ⟨rs, rfl, hr⟩ := strs_of ha
        rw [List.length_map] at hl
        k_updF
        intro l2
        refine gLstK_of (ds := [.str "hall"]) rfl (by show 1 ≤ _; omega) ?_
        k_updF
        have hL := hall_ck hr (by omega)
        refine ⟨by rw [List.length_map]; omega, gJoin_of (zs := ("hall" : Str) :: rs) rfl ?_ ?_⟩
        · have h2 : (rs.map (·.length)).sum ≤ rs.length * 11 := sum_le fun x hx => (hr x hx).2
          rw [List.map_cons, List.sum_cons, List.length_cons, n2, n3]
          omega
        · k_updF
          have := hzs.2.1
          refine ⟨by rw [List.length_map]; omega, l, zs ++ [Txt.join " " (("hall" : Str) :: rs)], _, _, _, ⟨by simp, by rw [List.length_append]; show _ + 1 ≤ _; omega, fun y hy => ?_⟩, hx8, by rw [List.map_append]; rfl⟩
          rcases List.mem_append.mp hy with hy | hy
          · exact hzs.2.2 y hy
          · rw [List.mem_singleton.mp hy]; exact hL
    · rintro _ ⟨l, zs, x6, x7, x8, hzs, hx8, rfl⟩
      k_updF
      have hz7 : LB zs 7 := ⟨hzs.1, by have := hzs.2.1; omega, hzs.2.2⟩
      refine gJoin_of (zs := zs) rfl (jn_ok hz7 (by decide)) ?_
      refine gCall_of (A := A_rgt) rfl ⟨_, rfl, hz7.text (by decide), rfl, rfl⟩ (imp_eq ?_)
      refine gTr_of (b := true) rfl ?_
      k_updF
      refine gCallL_of (A := A_lbt) ib (.cons a_bxF (.cons (.dat fun h => by cases h) (.cons (.dat fun h => by cases h) (.cons (.own rfl) .nil)))) ⟨p, k, zs, rfl, hp, hk, hz7.1, by have := hz7.2.1; omega, hz7.2.2, rfl, rfl⟩ ?_
      rintro _ ⟨zs', g0, gl, gz, rfl⟩
      have hz12 : LB zs' 12 := ⟨g0, gl, gz⟩
      refine gJoin_of (zs := zs') rfl (jn_ok hz12 (by decide)) ?_
      refine gCall_of (A := A_rgt) rfl ⟨_, rfl, hz12.text (by decide), rfl, rfl⟩ (imp_eq ?_)
      refine gTr_of (b := true) rfl ?_
      k_updF
      exact ⟨_, _, _, _, _, _, _, rfl, hx8, fun _ => ⟨l, zs, hz7, rfl⟩⟩
  · rintro _ ⟨x2, x3, x4, x5, x6, x7, x8, rfl, hx8, h5⟩
    obtain ⟨l, zs, hz, rfl⟩ := h5 (by decide)
    k_updF
    obtain ⟨z0, r, rfl⟩ : ∃ z0 r, zs = z0 :: r := by
      cases zs with
      | nil => exact absurd rfl hz.1
      | cons a r => exact ⟨a, r, rfl⟩
    refine gIx_of (ds := (z0 :: r).map PyData.str) (d := .str z0) rfl (at_nat (n := 0) rfl) ?_
    refine gCall_of (A := A_rgt) rfl ⟨_, rfl, .one (hz.2.2 z0 List.mem_cons_self), rfl, rfl⟩ (imp_eq ?_)
    k_updF
    refine gCall_of (A := A_rgt) rfl ⟨_, rfl, .one lk_nil, rfl, rfl⟩ (imp_eq ?_)
    k_updF
    refine gJoin_of (zs := z0 :: r) rfl (jn_ok hz (by decide)) ?_
    k_updF
    have hl := (hz.text (by decide)).asc.2
    refine ⟨by rw [show (("\n" : Str)).length = 1 by decide +kernel]; omega, ?_⟩
    refine gCall_of (A := A_rgt) rfl ⟨_, rfl, by rw [← join_snoc hz.1]; exact hz.snoc.text (by decide), rfl, rfl⟩ (imp_eq ?_)
    exact ⟨.inl hfr, rfl⟩
theorem go_law (h : sp_law K vs H Q E) : t_law K { nx := fun _ H' => Q .non H', rt := Q } (L2.start ["script"] vs) H := by
  obtain ⟨l, ns, rfl, sq, fin⟩ := h
  exact ⟨.ref l, rfl, l, ns, rfl, sq, fin⟩
end
end Mh

namespace Mh
open PySem PySem.Spec PyProof.Rows L2 TL
section
variable {P : Program} {w : World} {K : PySem.W.Frag} {mg : Str → Option Value} {base : Heap} {CX : CXT} {g : Bool} {k : Nat} {f C : Addr} {fd : FuncData} {ps N : List Str} {sp : Sp} {x qual : Str} {params : Arguments} {body : List Stmt} {scope : Scope}
theorem FnG.ok (F : FnG P w K mg base CX false k f fd ps sp) : FnOk P w K mg base CX k f fd ps sp := ⟨F.len, fun A outer s H args us vs Q E hr => F.run A outer s H args us vs Q E hr fun h => by cases h⟩
/-- a class that may be made by its name -/
structure MakC (P : Program) (w : World) (K : PySem.W.Frag) (mg : Str → Option Value) (base : Heap) (CX : CXT) (k : Nat) (x : Str) (C : Addr) (sp : Sp) : Prop where
  ex : ∃ (f : Addr) (fd : FuncData) (ps : List Str), Mk K C f ∧ FnOk P w K mg base CX k f fd ps sp ∧ mg x = some (.ref C) ∧ Binds K fd ps []
theorem makC_of (M : Mk K C f) (m : mg x = some (.ref C)) (F : FunD K "__init__" qual params body scope [] [] f fd) (sc : FnScope N ps scope) (len : ∀ vs H Q E, sp vs H Q E → vs.length = ps.length)
    (bind : ∀ (kV doc pm : Value) (an : Option Addr) (cdv ct : Value) (us : List Value), us.length = ps.length → bindArgs (PySem.W.fnOf "__init__" qual params body scope .none kV doc pm an cdv ct) ⟨us, []⟩ = pure (ps.zip us))
    (hb : ∀ (cdv : Value) (A : Around) (outer : List Env) (s : Shared) (H : Hp) (vs : List V) (Q : VK) (E : XK), Room k (A.deeper (envOfC qual scope s.heap.objs.size f cdv)) → (false = true → (A.deeper (envOfC qual scope s.heap.objs.size f cdv)).guards = some []) → sp vs H Q E →
      ∃ t, PSs (cxOf CX P w K mg base N qual scope f cdv A outer s H E) body t ∧ t { nx := fun _ H' => Q .non H', rt := Q } (L2.start N vs) H) : MakC P w K mg base CX (k + 1) x C sp := by
  have b : Binds K fd ps [] := F.bindsN bind
  have G := fn_ofG (g := false) F sc len hb
  exact ⟨f, fd, ps, M, G.ok, m, b⟩
theorem cl_void (F : FunD K x qual params body scope [] [] f fd) (m : mg x = some (.ref f)) (no : ∀ vs H Q E, ¬ sp vs H Q E)
    (bind : ∀ (kV doc pm : Value) (an : Option Addr) (cdv ct : Value) (us : List Value), us.length = ps.length → bindArgs (PySem.W.fnOf x qual params body scope .none kV doc pm an cdv ct) ⟨us, []⟩ = pure (ps.zip us)) : Cl P w K mg base CX g x k ps sp := by
  have b : Binds K fd ps [] := F.bindsN bind
  exact ⟨f, fd, ⟨fun vs H Q E h => (no vs H Q E h).elim, fun _ _ _ H _ _ vs Q E _ _ _ _ _ h => (no vs H Q E h).elim⟩, m, F.kp, b⟩
end
section
variable {X : Cx} {k j : Nat} {C : Addr} {x : Str} {sp : Sp} {p pos : Pos} {e : Expr} {es : List Expr} {t : TA}
theorem pe_mkC (c : MakC X.prog X.w X.K X.mg X.base (L2N.CX X.prog X.w) k x C sp) (hr : Room (k + 1) X.A) (hg : Gl X x) (ha : PA X (e :: es) t)
    (hdb : (x == ("__debug__" : Str)) = false := by decide) (he : starEach (e :: es) X.env = (false, eval e X.env) :: starEach es X.env := by rfl) (hpl : (backTo pos (starEach es X.env)).any (·.1) = false := by rfl) :
    PE X (.Call (.Name x p) (e :: es) [] pos) (tMake C sp [] E0 t) := by
  obtain ⟨f, fd, ps, M, F, hm, b⟩ := c.ex
  exact pe_make M F hr hg hm b .nil passF ha hdb he hpl
end
end Mh
namespace Mh
open PySem PySem.Spec PyProof.Rows L2
/-! ### a Hook that tells of the own exceptions' __init__ too -/
/-- such an __init__: the class's name, the def -/
structure IniD where
  x : Str
  params : Arguments
  body : List Stmt
  scope : Scope
  flds : List Str
abbrev FnI : Type := Option (Str × Str × Arguments × FuncBody × Scope × Addr × List Str × Addr)
def iniF (K : PySem.W.Frag) (d : IniD) : Addr := He.ma K (He.ga K d.x) "__init__"
def iniW (K : PySem.W.Frag) (d : IniD) : FnI := match K.lookup (iniF K d) with
  | some ⟨_, _, .func fd, _⟩ => some (fd.name, fd.qualname, fd.params, fd.body, fd.scope, fd.globals, fd.closure.map (·.1), fd.builtins)
  | _ => none
def IniD.qual (d : IniD) : Str := d.x ++ ".__init__"
def IniD.val (d : IniD) : FnI := some ("__init__", d.qual, d.params, .stmts d.body, d.scope, mainGlobals, ["__class__"], builtinsNs)
def clsB (K : PySem.W.Frag) (C : Addr) : Bool := match K.lookup C with
  | some ⟨.type t, _, .cls cd, sl⟩ => (match cd.mro, sl.toList with
    | .ref C' :: bm, [_, _, _, _, some (.builtin n), _] => decide (t = "type") && (decide (C' = C) && (decide (n = "ValueError.__new__") && (!cd.hasDel && (cd.hasDict && HandSPX.refsVE bm))))
    | _, _ => false)
  | _ => false
def fileB (P : Program) (vs : Array Value) : Bool := match (vs[2]? : Option Value) with
  | some (Value.str file _) => (P.main.file : Str) == file
  | _ => false
theorem fileB_ok {P : Program} {vs : Array Value} (h : fileB P vs = true) : ∃ file tf, vs[2]? = some (.str file tf) ∧ ((P.main.file : Str) == file) = true := by
  unfold fileB at h
  split at h
  · rename_i file tf e
    exact ⟨file, tf, e, h⟩
  · cases h
def fnB (P : Program) (K : PySem.W.Frag) (f C : Addr) (q : Str) : Bool := match K.lookup f with
  | some ⟨_, _, .func fd, _⟩ => (match fd.closure, fd.code, fd.defaults with
    | [(_, cc)], .ref cda, .none => PySem.W.codeIn K (.ref cda) q && ((match K.lookup cc with
      | some ⟨_, _, .cell (some (.ref D)), _⟩ => decide (D = C)
      | _ => false) && (match K.lookup cda with
      | some ⟨_, _, .fields vs, _⟩ => fileB P vs
      | _ => false))
    | _, _, _ => false)
  | _ => false
def iniB (P : Program) (K : PySem.W.Frag) (d : IniD) : Bool :=
  He.eqO (PySem.W.nsIn K mainGlobals d.x) (some (some (.ref (He.ga K d.x)))) && (clsB K (He.ga K d.x) && (fnB P K (iniF K d) (He.ga K d.x) d.qual && (He.eqO (PySem.W.findIn K (.ref (He.ga K d.x)) "__setattr__") (some (some (.builtin "object.__setattr__"))) &&
  (decide (PySem.W.subIn K (.ref (He.ga K d.x)) (.type "BaseException") = some true) && (decide (PySem.W.typeIn K (.ref (He.ga K d.x)) = some (.type "type")) && (PySem.W.keepIn K (.ref (He.ga K d.x)) &&
  (He.eqO (PySem.W.findIn K (.ref (He.ga K d.x)) "__init__") (some (some (.ref (iniF K d)))) && (decide (PySem.W.typeIn K (.ref (iniF K d)) = some (.type "function")) &&
  (decide (PySem.W.ks_superIn K (He.ga K d.x) (He.ga K d.x) "__init__" = some (some (.builtin "ValueError.__init__"))) && (decide (PySem.W.subIn K (.ref (He.ga K d.x)) (.type "ValueError") = some true) && (decide (PySem.W.mroIn K (He.ga K d.x) (.ref (He.ga K d.x)) = some true) &&
  (He.eqO (PySem.W.nsIn K cStatics "thirdparty.any") (some none) && (d.flds.all fun f => He.eqO (PySem.W.findIn K (.ref (He.ga K d.x)) f) (some none))))))))))))))
theorem clsB_ok {K : PySem.W.Frag} {C : Addr} (h : clsB K C = true) : ∃ nm q N bs bm sn sub ab col dd k0 k1 k2 k3 k5, K.lookup C = some (excClassObj nm q C N bs bm true sn sub ab col dd k0 k1 k2 k3 k5 "ValueError.__new__") ∧ HandSPX.refsVE bm = true := by
  unfold clsB at h
  split at h
  · rename_i t dd cd sl ho
    split at h
    · rename_i C' bm k0 k1 k2 k3 n k5 hm hs
      simp only [Bool.and_eq_true, decide_eq_true_eq, Bool.not_eq_true'] at h
      obtain ⟨rfl, rfl, rfl, hdel, hdict, hv⟩ := h
      obtain ⟨nm, bs, mro, ns, qn, hd, sn, sub, ab, col, del⟩ := cd
      dsimp only at hm hdel hdict
      subst hm hdel hdict
      have hsl : sl = #[k0, k1, k2, k3, some (.builtin "ValueError.__new__"), k5] := by
        obtain ⟨l⟩ := sl
        simp only at hs
        rw [hs]
      subst hsl
      exact ⟨_, _, _, _, _, _, _, _, _, _, _, _, _, _, _, ho, hv⟩
    · cases h
  · cases h
theorem fnB_ok {P : Program} {K : PySem.W.Frag} {f C : Addr} {q : Str} (h : fnB P K f C q = true) : ∃ oc od fd osl cn cda cc ccl cl cdd cld ccs csl vs file tf,
    K.lookup f = some ⟨oc, od, .func fd, osl⟩ ∧ fd.closure = [(cn, cc)] ∧ fd.code = .ref cda ∧ fd.defaults = .none ∧ PySem.W.codeIn K (.ref cda) q = true ∧
    K.lookup cda = some ⟨ccl, cdd, .fields vs, ccs⟩ ∧ vs[2]? = some (.str file tf) ∧ ((P.main.file : Str) == file) = true ∧ K.lookup cc = some ⟨cl, cld, .cell (some (.ref C)), csl⟩ := by
  unfold fnB at h
  split at h
  · rename_i oc od fd osl ho
    split at h
    · rename_i cn cc cda h1 h2 h3
      simp only [Bool.and_eq_true] at h
      obtain ⟨hc, h4, h5⟩ := h
      split at h4
      · rename_i cl cld D csl hcc
        have eD : D = C := of_decide_eq_true h4
        subst eD
        split at h5
        · rename_i ccl cdd vs ccs hcd
          obtain ⟨file, tf, hvs, hf⟩ := fileB_ok h5
          exact ⟨oc, od, fd, osl, cn, cda, cc, ccl, cl, cdd, cld, ccs, csl, vs, file, tf, ho, h1, h2, h3, hc, hcd, hvs, hf, hcc⟩
        · cases h5
      · cases h4
    · cases h
  · cases h
theorem ini_ok {P : Program} {K : PySem.W.Frag} {d : IniD} (hb : iniB P K d = true) (hw : iniW K d = d.val) :
    (∃ fd, HInit P K (iniF K d) (He.ga K d.x) "__init__" d.qual d.params d.body d.scope fd ∧ (∀ ps : List Str, (∀ (kV doc pm : Value) (an : Option Addr) (cl : List (Str × Addr)) (cdv ct : Value) (us : List Value), us.length = ps.length → bindArgs (PySem.W.fnX "__init__" d.qual d.params d.body d.scope cl .none kV doc pm an cdv ct) ⟨us, []⟩ = pure (ps.zip us)) → Binds K fd ps [])) ∧
    PySem.W.findIn K (.ref (He.ga K d.x)) "__init__" = some (some (.ref (iniF K d))) ∧ PySem.W.typeIn K (.ref (iniF K d)) = some (.type "function") ∧ PySem.W.nsIn K mainGlobals d.x = some (some (.ref (He.ga K d.x))) ∧ ∀ f ∈ d.flds, PySem.W.findIn K (.ref (He.ga K d.x)) f = some none := by
  unfold iniB at hb
  simp only [Bool.and_eq_true] at hb
  obtain ⟨b0, b1, b2, b3, b4, b5, b6, b7, b8, b9, b10, b11, b12, b13⟩ := hb
  obtain ⟨oc, od, fd, osl, cn, cda, cc, ccl, cl, cdd, cld, ccs, csl, vs, file, tf, ho, h1, h2, h3, hc, hcd, hvs, hfile, hcc⟩ := fnB_ok b2
  unfold iniW at hw
  rw [ho] at hw
  obtain ⟨n1, n2, n3, n4, n5, n6, n7, n8, n9, n10, n11, n12, n13, n14, n15⟩ := fd
  dsimp only at h1 h2 h3
  subst h1 h2 h3
  have e2 : (some (n1, n2, n3, n4, n5, n6, [cn], n15) : FnI) = d.val := hw
  unfold IniD.val at e2
  simp only [Option.some.injEq, Prod.mk.injEq, List.cons.injEq] at e2
  obtain ⟨g1, g2, g3, g4, g5, g6, g7, g8⟩ := e2
  obtain ⟨g7, _⟩ := g7
  subst g1 g2 g3 g4 g5 g6 g7 g8
  refine ⟨⟨_, ⟨⟨clsB_ok b1, He.eqO_ok b3, of_decide_eq_true b4, of_decide_eq_true b5, b6⟩, ⟨oc, od, n12, osl, .none, n9, n10, n11, n14, cda, cc, ccl, cl, cdd, cld, ccs, csl, vs, file, tf, rfl, ho, hc, hcd, hvs, hfile, hcc⟩, of_decide_eq_true b9, of_decide_eq_true b10, of_decide_eq_true b11, He.eqO_ok b12⟩, fun ps h => .all (h _ _ _ _ _ _ _)⟩, He.eqO_ok b7, of_decide_eq_true b8, He.eqO_ok b0, fun f hf => He.eqO_ok (List.all_eq_true.mp b13 f hf)⟩
/-! the Hook -/
abbrev AlE : Type := He.AlD × Bool × List FnI
def asE (g : Addr → Option Obj) (n : Nat) : List Addr := He.asD g n ++ [cStatics]
/-- what a suite wants of the class: its fields are read, its own name catches it -/
def iniX (K : PySem.W.Frag) (d : IniD) : Bool := xfB K (He.ga K d.x) && decide (PySem.W.exmOne K (.ref (He.ga K d.x)) (.ref (He.ga K d.x)) = some true)
def iniB2 (P : Program) (K : PySem.W.Frag) (d : IniD) : Bool := iniB P K d && iniX K d
def obsK (P : Program) (fa : List He.Fa) (fn : List He.DefD) (fi : List IniD) (K : PySem.W.Frag) : AlE := (He.obsD fa fn K, fi.all (iniB2 P K), fi.map (iniW K))
def valE (fn : List He.DefD) (fi : List IniD) : AlE := (He.valD fn, true, fi.map IniD.val)
def obsE (P : Program) (n : Nat) (fa : List He.Fa) (fn : List He.DefD) (fi : List IniD) (g : Addr → Option Obj) : AlE := obsK P fa fn fi (He.frG g (asE g n))
def hookE (P : Program) (n : Nat) (fa : List He.Fa) (fn : List He.DefD) (fi : List IniD) : PySem.W.Hook where
  α := AlE
  obs := fun s => obsE P n fa fn fi s.heap.get?
  val := fun _ => valE fn fi
  says := fun _ h => ∃ K : PySem.W.Frag, K.In h ∧ obsK P fa fn fi K = valE fn fi
  of := fun _ _ e => ⟨_, He.frG_in, e⟩
  keeps := fun _ _ _ ⟨K, hK, c⟩ k => ⟨K, PySem.W.Frag.In.keeps hK k, c⟩
theorem obsE_eq {P : Program} {n : Nat} {fa : List He.Fa} {fn : List He.DefD} {fi : List IniD} {g : Addr → Option Obj} {s : Shared} (h : ∀ a, g a = s.heap.get? a) : obsE P n fa fn fi g = (hookE P n fa fn fi).obs s := by
  have e : g = s.heap.get? := funext h
  rw [e] <;> rfl
theorem saysE {P : Program} {fa : List He.Fa} {fn : List He.DefD} {fi : List IniD} {K : PySem.W.Frag} (c : obsK P fa fn fi K = valE fn fi) : He.SaysD fa fn K ∧ ∀ (i : Nat) (d : IniD), fi[i]? = some d → iniB2 P K d = true ∧ iniW K d = d.val := by
  refine ⟨congrArg (fun z : AlE => z.1) c, fun i d h => ⟨?_, ?_⟩⟩
  · have c1 : fi.all (iniB2 P K) = true := congrArg (fun z : AlE => z.2.1) c
    exact List.all_eq_true.mp c1 d (List.mem_of_getElem? h)
  · have c2 : fi.map (iniW K) = fi.map IniD.val := congrArg (fun z : AlE => z.2.2) c
    have c3 := congrArg (fun l : List FnI => l[i]?) c2
    simp only [List.getElem?_map, h, Option.map_some, Option.some.injEq] at c3
    exact c3
end Mh
namespace Mh
open PySem PySem.Spec PyProof.Rows L2
def top (i : Nat) : Stmt := PySem.Challenge.pw_mendinghalls_k79_book_texts_refused.main.body.getD i (.Pass ⟨0, 0, 0, 0⟩)
abbrev s_iT : Stmt := inClass (top 24) 0
def iT : IniD := ⟨"InvalidText", defArgs s_iT, defBody s_iT, defScope s_iT, ["text", "at"]⟩
abbrev RW : PySem.W.OpenRow := PySem.W.OpenLaw.row PySem.Challenge.rw_mendinghalls_k79_book_texts_refused
abbrev PP : Program := PySem.Challenge.rw_mendinghalls_k79_book_texts_refused.prog
end Mh
namespace Mh
open PySem PySem.Spec PyProof.Rows L2 TL
abbrev FnP (K : PySem.W.Frag) (x q : Str) (st : Stmt) (f : Addr) (fd : FuncData) : Prop := FunD K x q (defArgs st) (defBody st) (defScope st) [] [] f fd

abbrev s_is_figure : Stmt := top 4
abbrev N_is_figure : List Str := ["sign"]
theorem sc_is_figure : FnScope N_is_figure ["sign"] (defScope s_is_figure) := ⟨rfl, rfl, rfl, by decide +kernel, rfl, by decide +kernel, by decide +kernel⟩
abbrev s_figures_end : Stmt := top 5
abbrev N_figures_end : List Str := ["text", "at", "end"]
theorem sc_figures_end : FnScope N_figures_end ["text", "at"] (defScope s_figures_end) := ⟨rfl, rfl, rfl, by decide +kernel, rfl, by decide +kernel, by decide +kernel⟩
abbrev s_are_figures : Stmt := top 6
abbrev N_are_figures : List Str := ["word"]
theorem sc_are_figures : FnScope N_are_figures ["word"] (defScope s_are_figures) := ⟨rfl, rfl, rfl, by decide +kernel, rfl, by decide +kernel, by decide +kernel⟩
abbrev s_number_of : Stmt := top 7
abbrev N_number_of : List Str := ["word", "most"]
theorem sc_number_of : FnScope N_number_of ["word", "most"] (defScope s_number_of) := ⟨rfl, rfl, rfl, by decide +kernel, rfl, by decide +kernel, by decide +kernel⟩
abbrev s_any_number : Stmt := top 8
abbrev N_any_number : List Str := ["word"]
theorem sc_any_number : FnScope N_any_number ["word"] (defScope s_any_number) := ⟨rfl, rfl, rfl, by decide +kernel, rfl, by decide +kernel, by decide +kernel⟩
abbrev s_number_from_one : Stmt := top 9
abbrev N_number_from_one : List Str := ["word", "number"]
theorem sc_number_from_one : FnScope N_number_from_one ["word"] (defScope s_number_from_one) := ⟨rfl, rfl, rfl, by decide +kernel, rfl, by decide +kernel, by decide +kernel⟩
abbrev s_number_below : Stmt := top 10
abbrev N_number_below : List Str := ["word", "limit", "number"]
theorem sc_number_below : FnScope N_number_below ["word", "limit"] (defScope s_number_below) := ⟨rfl, rfl, rfl, by decide +kernel, rfl, by decide +kernel, by decide +kernel⟩
abbrev s_numbers_below : Stmt := top 11
abbrev N_numbers_below : List Str := ["words", "many", "limit", "numbers", "word"]
theorem sc_numbers_below : FnScope N_numbers_below ["words", "many", "limit"] (defScope s_numbers_below) := ⟨rfl, rfl, rfl, by decide +kernel, rfl, by decide +kernel, by decide +kernel⟩
abbrev s_is_integer : Stmt := top 13
abbrev N_is_integer : List Str := ["value"]
theorem sc_is_integer : FnScope N_is_integer ["value"] (defScope s_is_integer) := ⟨rfl, rfl, rfl, by decide +kernel, rfl, by decide +kernel, by decide +kernel⟩
abbrev s_is_number_below : Stmt := top 14
abbrev N_is_number_below : List Str := ["value", "limit"]
theorem sc_is_number_below : FnScope N_is_number_below ["value", "limit"] (defScope s_is_number_below) := ⟨rfl, rfl, rfl, by decide +kernel, rfl, by decide +kernel, by decide +kernel⟩
abbrev s_is_from_one : Stmt := top 15
abbrev N_is_from_one : List Str := ["value"]
theorem sc_is_from_one : FnScope N_is_from_one ["value"] (defScope s_is_from_one) := ⟨rfl, rfl, rfl, by decide +kernel, rfl, by decide +kernel, by decide +kernel⟩
abbrev s_are_numbers_below : Stmt := top 16
abbrev N_are_numbers_below : List Str := ["value", "many", "limit", "one"]
theorem sc_are_numbers_below : FnScope N_are_numbers_below ["value", "many", "limit"] (defScope s_are_numbers_below) := ⟨rfl, rfl, rfl, by decide +kernel, rfl, by decide +kernel, by decide +kernel⟩
abbrev s_are_rows : Stmt := top 17
abbrev N_are_rows : List Str := ["value", "many", "limit", "one"]
theorem sc_are_rows : FnScope N_are_rows ["value", "many", "limit"] (defScope s_are_rows) := ⟨rfl, rfl, rfl, by decide +kernel, rfl, by decide +kernel, by decide +kernel⟩
abbrev s_is_witness : Stmt := top 29
abbrev N_is_witness : List Str := ["base", "number", "odd", "times", "now", "_"]
theorem sc_is_witness : FnScope N_is_witness ["base", "number"] (defScope s_is_witness) := ⟨rfl, rfl, rfl, by decide +kernel, rfl, by decide +kernel, by decide +kernel⟩
abbrev s_small_divisor : Stmt := top 30
abbrev N_small_divisor : List Str := ["number", "prime"]
theorem sc_small_divisor : FnScope N_small_divisor ["number"] (defScope s_small_divisor) := ⟨rfl, rfl, rfl, by decide +kernel, rfl, by decide +kernel, by decide +kernel⟩
abbrev s_is_prime_number : Stmt := top 31
abbrev N_is_prime_number : List Str := ["number", "divisor", "base"]
theorem sc_is_prime_number : FnScope N_is_prime_number ["number"] (defScope s_is_prime_number) := ⟨rfl, rfl, rfl, by decide +kernel, rfl, by decide +kernel, by decide +kernel⟩
abbrev s_demand_prime : Stmt := top 33
abbrev N_demand_prime : List Str := ["p"]
theorem sc_demand_prime : FnScope N_demand_prime ["p"] (defScope s_demand_prime) := ⟨rfl, rfl, rfl, by decide +kernel, rfl, by decide +kernel, by decide +kernel⟩
abbrev s_demand_from_one : Stmt := top 34
abbrev N_demand_from_one : List Str := ["value"]
theorem sc_demand_from_one : FnScope N_demand_from_one ["value"] (defScope s_demand_from_one) := ⟨rfl, rfl, rfl, by decide +kernel, rfl, by decide +kernel, by decide +kernel⟩
abbrev s_are_halls : Stmt := top 36
abbrev N_are_halls : List Str := ["p", "k", "value", "rows"]
theorem sc_are_halls : FnScope N_are_halls ["p", "k", "value"] (defScope s_are_halls) := ⟨rfl, rfl, rfl, by decide +kernel, rfl, by decide +kernel, by decide +kernel⟩
abbrev s_Book___init : Stmt := inClass (top 37) 0
abbrev N_Book___init : List Str := ["self", "p", "k", "halls"]
theorem sc_Book___init : FnScope N_Book___init ["self", "p", "k", "halls"] (defScope s_Book___init) := ⟨rfl, rfl, rfl, by decide +kernel, rfl, by decide +kernel, by decide +kernel⟩
abbrev s_demand_book : Stmt := top 39
abbrev N_demand_book : List Str := ["book"]
theorem sc_demand_book : FnScope N_demand_book ["book"] (defScope s_demand_book) := ⟨rfl, rfl, rfl, by decide +kernel, rfl, by decide +kernel, by decide +kernel⟩
abbrev s_is_prime : Stmt := top 41
abbrev N_is_prime : List Str := ["value"]
theorem sc_is_prime : FnScope N_is_prime ["value"] (defScope s_is_prime) := ⟨rfl, rfl, rfl, by decide +kernel, rfl, by decide +kernel, by decide +kernel⟩
abbrev s_head_line : Stmt := top 45
abbrev N_head_line : List Str := ["book"]
theorem sc_head_line : FnScope N_head_line ["book"] (defScope s_head_line) := ⟨rfl, rfl, rfl, by decide +kernel, rfl, by decide +kernel, by decide +kernel⟩
abbrev s_row_word : Stmt := top 46
abbrev N_row_word : List Str := ["row", "number"]
theorem sc_row_word : FnScope N_row_word ["row"] (defScope s_row_word) := ⟨rfl, rfl, rfl, by decide +kernel, rfl, by decide +kernel, by decide +kernel⟩
abbrev s_hall_line : Stmt := top 47
abbrev N_hall_line : List Str := ["rows", "row"]
theorem sc_hall_line : FnScope N_hall_line ["rows"] (defScope s_hall_line) := ⟨rfl, rfl, rfl, by decide +kernel, rfl, by decide +kernel, by decide +kernel⟩
abbrev s_lines_of_book : Stmt := top 48
abbrev N_lines_of_book : List Str := ["book", "rows"]
theorem sc_lines_of_book : FnScope N_lines_of_book ["book"] (defScope s_lines_of_book) := ⟨rfl, rfl, rfl, by decide +kernel, rfl, by decide +kernel, by decide +kernel⟩
abbrev s_head_read : Stmt := top 49
abbrev N_head_read : List Str := ["line", "words", "p", "k"]
theorem sc_head_read : FnScope N_head_read ["line"] (defScope s_head_read) := ⟨rfl, rfl, rfl, by decide +kernel, rfl, by decide +kernel, by decide +kernel⟩
abbrev s_row_read : Stmt := top 50
abbrev N_row_read : List Str := ["p", "k", "word"]
theorem sc_row_read : FnScope N_row_read ["p", "k", "word"] (defScope s_row_read) := ⟨rfl, rfl, rfl, by decide +kernel, rfl, by decide +kernel, by decide +kernel⟩
abbrev s_rows_read : Stmt := top 51
abbrev N_rows_read : List Str := ["p", "k", "line", "words", "rows", "word"]
theorem sc_rows_read : FnScope N_rows_read ["p", "k", "line"] (defScope s_rows_read) := ⟨rfl, rfl, rfl, by decide +kernel, rfl, by decide +kernel, by decide +kernel⟩
abbrev s_halls_read : Stmt := top 52
abbrev N_halls_read : List Str := ["p", "k", "lines", "halls", "line", "rows"]
theorem sc_halls_read : FnScope N_halls_read ["p", "k", "lines"] (defScope s_halls_read) := ⟨rfl, rfl, rfl, by decide +kernel, rfl, by decide +kernel, by decide +kernel⟩
abbrev s_book_ahead : Stmt := top 53
abbrev N_book_ahead : List Str := ["text", "lines", "head", "p", "k", "halls"]
theorem sc_book_ahead : FnScope N_book_ahead ["text", "lines"] (defScope s_book_ahead) := ⟨rfl, rfl, rfl, by decide +kernel, rfl, by decide +kernel, by decide +kernel⟩
abbrev s_lines_used : Stmt := top 54
abbrev N_lines_used : List Str := ["book"]
theorem sc_lines_used : FnScope N_lines_used ["book"] (defScope s_lines_used) := ⟨rfl, rfl, rfl, by decide +kernel, rfl, by decide +kernel, by decide +kernel⟩
abbrev s_write_book : Stmt := top 56
abbrev N_write_book : List Str := ["book"]
theorem sc_write_book : FnScope N_write_book ["book"] (defScope s_write_book) := ⟨rfl, rfl, rfl, by decide +kernel, rfl, by decide +kernel, by decide +kernel⟩
abbrev s_read_book : Stmt := top 57
abbrev N_read_book : List Str := ["text", "lines", "book"]
theorem sc_read_book : FnScope N_read_book ["text"] (defScope s_read_book) := ⟨rfl, rfl, rfl, by decide +kernel, rfl, by decide +kernel, by decide +kernel⟩
abbrev s_law_box : Stmt := top 59
abbrev N_law_box : List Str := ["script", "cells", "great", "cell"]
theorem sc_law_box : FnScope N_law_box ["script"] (defScope s_law_box) := ⟨rfl, rfl, rfl, by decide +kernel, rfl, by decide +kernel, by decide +kernel⟩
abbrev s_law_draw : Stmt := top 60
abbrev N_law_draw : List Str := ["box", "limit", "great", "cell", "mixed", "digit"]
theorem sc_law_draw : FnScope N_law_draw ["box", "limit"] (defScope s_law_draw) := ⟨rfl, rfl, rfl, by decide +kernel, rfl, by decide +kernel, by decide +kernel⟩
abbrev s_law_same : Stmt := top 61
abbrev N_law_same : List Str := ["due", "got"]
theorem sc_law_same : FnScope N_law_same ["due", "got"] (defScope s_law_same) := ⟨rfl, rfl, rfl, by decide +kernel, rfl, by decide +kernel, by decide +kernel⟩
abbrev s_law_number : Stmt := top 62
abbrev N_law_number : List Str := ["word", "sign"]
theorem sc_law_number : FnScope N_law_number ["word"] (defScope s_law_number) := ⟨rfl, rfl, rfl, by decide +kernel, rfl, by decide +kernel, by decide +kernel⟩
abbrev s_law_prime : Stmt := top 63
abbrev N_law_prime : List Str := ["number", "x"]
theorem sc_law_prime : FnScope N_law_prime ["number"] (defScope s_law_prime) := ⟨rfl, rfl, rfl, by decide +kernel, rfl, by decide +kernel, by decide +kernel⟩
abbrev s_law_read_row : Stmt := top 64
abbrev N_law_read_row : List Str := ["p", "k", "word", "row", "one"]
theorem sc_law_read_row : FnScope N_law_read_row ["p", "k", "word"] (defScope s_law_read_row) := ⟨rfl, rfl, rfl, by decide +kernel, rfl, by decide +kernel, by decide +kernel⟩
abbrev s_law_read : Stmt := top 65
abbrev N_law_read : List Str := ["text", "lines", "words", "p", "k", "halls", "at", "rows", "word", "row"]
theorem sc_law_read : FnScope N_law_read ["text"] (defScope s_law_read) := ⟨rfl, rfl, rfl, by decide +kernel, rfl, by decide +kernel, by decide +kernel⟩
abbrev s_law_row_text : Stmt := top 66
abbrev N_law_row_text : List Str := ["box", "p", "k", "j"]
theorem sc_law_row_text : FnScope N_law_row_text ["box", "p", "k"] (defScope s_law_row_text) := ⟨rfl, rfl, rfl, by decide +kernel, rfl, by decide +kernel, by decide +kernel⟩
abbrev s_law_head_bent : Stmt := top 67
abbrev N_law_head_bent : List Str := ["box", "p", "k", "one", "two", "others"]
theorem sc_law_head_bent : FnScope N_law_head_bent ["box", "p", "k"] (defScope s_law_head_bent) := ⟨rfl, rfl, rfl, by decide +kernel, rfl, by decide +kernel, by decide +kernel⟩
abbrev s_law_hall_bent : Stmt := top 68
abbrev N_law_hall_bent : List Str := ["box", "p", "k", "line", "row", "others"]
theorem sc_law_hall_bent : FnScope N_law_hall_bent ["box", "p", "k", "line"] (defScope s_law_hall_bent) := ⟨rfl, rfl, rfl, by decide +kernel, rfl, by decide +kernel, by decide +kernel⟩
abbrev s_law_bent : Stmt := top 69
abbrev N_law_bent : List Str := ["box", "p", "k", "lines", "out", "turn", "shape", "at", "first"]
theorem sc_law_bent : FnScope N_law_bent ["box", "p", "k", "lines"] (defScope s_law_bent) := ⟨rfl, rfl, rfl, by decide +kernel, rfl, by decide +kernel, by decide +kernel⟩
abbrev s_law_right : Stmt := top 70
abbrev N_law_right : List Str := ["text", "due", "book", "e"]
theorem sc_law_right : FnScope N_law_right ["text"] (defScope s_law_right) := ⟨rfl, rfl, rfl, by decide +kernel, rfl, by decide +kernel, by decide +kernel⟩
abbrev s_law_all : Stmt := top 71
abbrev N_law_all : List Str := ["script", "box", "turn", "p", "k", "lines", "h", "rows", "r"]
theorem sc_law_all : FnScope N_law_all ["script"] (defScope s_law_all) := ⟨rfl, rfl, rfl, by decide +kernel, rfl, by decide +kernel, by decide +kernel⟩
abbrev s_law : Stmt := top 72
abbrev N_law : List Str := ["script"]
theorem sc_law : FnScope N_law ["script"] (defScope s_law) := ⟨rfl, rfl, rfl, by decide +kernel, rfl, by decide +kernel, by decide +kernel⟩
structure Bi (K : PySem.W.Frag) (mg : Str → Option Value) : Prop where
  b_abs : mg "abs" = none
  b_all : mg "all" = none
  b_bool : mg "bool" = none
  b_int : mg "int" = none
  b_isinstance : mg "isinstance" = none
  b_len : mg "len" = none
  b_list : mg "list" = none
  b_max : mg "max" = none
  b_min : mg "min" = none
  b_range : mg "range" = none
  b_repr : mg "repr" = none
  b_reversed : mg "reversed" = none
  b_str : mg "str" = none
  b_tuple : mg "tuple" = none
  x_HallError : ∃ C, mg "HallError" = some (.ref C)
  k_Book : mg "Book" = some (.ref (He.ga K "Book"))
  c_BOOK : ∃ t, mg "BOOK" = some (.str "book" t)
  c_FIGURES : ∃ t, mg "FIGURES" = some (.str "0123456789" t)
  c_FIRST : mg "FIRST" = some (.ref (He.ga K "FIRST"))
  c_HALL : ∃ t, mg "HALL" = some (.str "hall" t)
  c_LONGEST : ∃ t, mg "LONGEST" = some (.int 4000 t)
end Mh
namespace Mh
open PySem PySem.Spec PyProof.Rows L2 TL
theorem spB_len {K : PySem.W.Frag} {A : Addr → At} {vs : List V} {H : Hp} {Q : VK} {E : XK} {n : Nat} (hA : ∀ b ks S Z, A b ks S Z → ks.length = n) (h : spB K A vs H Q E) : vs.length = n := by
  obtain ⟨b, g, c, h⟩ := h
  exact sp_len (hA b) h
section
variable {K : PySem.W.Frag} {vs : List V} {H : Hp} {Q : VK} {E : XK}
theorem go_law_draw (h : sp_law_draw K vs H Q E) : t_draw K { nx := fun _ H' => Q .non H', rt := Q } (L2.start ["box", "limit", "great", "cell", "mixed", "digit"] vs) H := go_draw h
theorem go_law_box (h : sp_law_box K vs H Q E) : t_box K { nx := fun _ H' => Q .non H', rt := Q } (L2.start ["script", "cells", "great", "cell"] vs) H := go_box h
end
theorem len_is_figure {K : PySem.W.Frag} : ∀ vs H Q E, sp_is_figure K vs H Q E → vs.length = 1 := fun _ _ _ _ h => sp_len (fun ks S Z a => by first | (obtain ⟨rfl, _⟩ := a; rfl) | (obtain ⟨_, rfl, _⟩ := a; rfl) | (obtain ⟨_, _, rfl, _⟩ := a; rfl) | (obtain ⟨_, _, _, rfl, _⟩ := a; rfl) | (obtain ⟨_, _, _, _, rfl, _⟩ := a; rfl) | (obtain ⟨_, _, _, _, _, rfl, _⟩ := a; rfl) | (obtain ⟨_, _, _, _, _, _, rfl, _⟩ := a; rfl)) h
theorem len_figures_end {K : PySem.W.Frag} : ∀ vs H Q E, sp_figures_end K vs H Q E → vs.length = 2 := fun _ _ _ _ h => sp_len (fun ks S Z a => by first | (obtain ⟨rfl, _⟩ := a; rfl) | (obtain ⟨_, rfl, _⟩ := a; rfl) | (obtain ⟨_, _, rfl, _⟩ := a; rfl) | (obtain ⟨_, _, _, rfl, _⟩ := a; rfl) | (obtain ⟨_, _, _, _, rfl, _⟩ := a; rfl) | (obtain ⟨_, _, _, _, _, rfl, _⟩ := a; rfl) | (obtain ⟨_, _, _, _, _, _, rfl, _⟩ := a; rfl)) h
theorem len_are_figures {K : PySem.W.Frag} : ∀ vs H Q E, sp_are_figures K vs H Q E → vs.length = 1 := fun _ _ _ _ h => sp_len (fun ks S Z a => by first | (obtain ⟨rfl, _⟩ := a; rfl) | (obtain ⟨_, rfl, _⟩ := a; rfl) | (obtain ⟨_, _, rfl, _⟩ := a; rfl) | (obtain ⟨_, _, _, rfl, _⟩ := a; rfl) | (obtain ⟨_, _, _, _, rfl, _⟩ := a; rfl) | (obtain ⟨_, _, _, _, _, rfl, _⟩ := a; rfl) | (obtain ⟨_, _, _, _, _, _, rfl, _⟩ := a; rfl)) h
theorem len_number_of {K : PySem.W.Frag} : ∀ vs H Q E, sp_number_of K vs H Q E → vs.length = 2 := fun _ _ _ _ h => sp_len (fun ks S Z a => by first | (obtain ⟨rfl, _⟩ := a; rfl) | (obtain ⟨_, rfl, _⟩ := a; rfl) | (obtain ⟨_, _, rfl, _⟩ := a; rfl) | (obtain ⟨_, _, _, rfl, _⟩ := a; rfl) | (obtain ⟨_, _, _, _, rfl, _⟩ := a; rfl) | (obtain ⟨_, _, _, _, _, rfl, _⟩ := a; rfl) | (obtain ⟨_, _, _, _, _, _, rfl, _⟩ := a; rfl)) h
theorem len_any_number {K : PySem.W.Frag} : ∀ vs H Q E, sp_any_number K vs H Q E → vs.length = 1 := fun _ _ _ _ h => sp_len (fun ks S Z a => by first | (obtain ⟨rfl, _⟩ := a; rfl) | (obtain ⟨_, rfl, _⟩ := a; rfl) | (obtain ⟨_, _, rfl, _⟩ := a; rfl) | (obtain ⟨_, _, _, rfl, _⟩ := a; rfl) | (obtain ⟨_, _, _, _, rfl, _⟩ := a; rfl) | (obtain ⟨_, _, _, _, _, rfl, _⟩ := a; rfl) | (obtain ⟨_, _, _, _, _, _, rfl, _⟩ := a; rfl)) h
theorem len_number_from_one {K : PySem.W.Frag} : ∀ vs H Q E, sp_number_from_one K vs H Q E → vs.length = 1 := fun _ _ _ _ h => sp_len (fun ks S Z a => by first | (obtain ⟨rfl, _⟩ := a; rfl) | (obtain ⟨_, rfl, _⟩ := a; rfl) | (obtain ⟨_, _, rfl, _⟩ := a; rfl) | (obtain ⟨_, _, _, rfl, _⟩ := a; rfl) | (obtain ⟨_, _, _, _, rfl, _⟩ := a; rfl) | (obtain ⟨_, _, _, _, _, rfl, _⟩ := a; rfl) | (obtain ⟨_, _, _, _, _, _, rfl, _⟩ := a; rfl)) h
theorem len_number_below {K : PySem.W.Frag} : ∀ vs H Q E, sp_number_below K vs H Q E → vs.length = 2 := fun _ _ _ _ h => sp_len (fun ks S Z a => by first | (obtain ⟨rfl, _⟩ := a; rfl) | (obtain ⟨_, rfl, _⟩ := a; rfl) | (obtain ⟨_, _, rfl, _⟩ := a; rfl) | (obtain ⟨_, _, _, rfl, _⟩ := a; rfl) | (obtain ⟨_, _, _, _, rfl, _⟩ := a; rfl) | (obtain ⟨_, _, _, _, _, rfl, _⟩ := a; rfl) | (obtain ⟨_, _, _, _, _, _, rfl, _⟩ := a; rfl)) h
theorem len_numbers_below {K : PySem.W.Frag} : ∀ vs H Q E, sp_numbers_below K vs H Q E → vs.length = 3 := fun _ _ _ _ h => sp_len (fun ks S Z a => by first | (obtain ⟨rfl, _⟩ := a; rfl) | (obtain ⟨_, rfl, _⟩ := a; rfl) | (obtain ⟨_, _, rfl, _⟩ := a; rfl) | (obtain ⟨_, _, _, rfl, _⟩ := a; rfl) | (obtain ⟨_, _, _, _, rfl, _⟩ := a; rfl) | (obtain ⟨_, _, _, _, _, rfl, _⟩ := a; rfl) | (obtain ⟨_, _, _, _, _, _, rfl, _⟩ := a; rfl)) h
theorem len_is_integer {K : PySem.W.Frag} : ∀ vs H Q E, sp_is_integer K vs H Q E → vs.length = 1 := fun _ _ _ _ h => sp_len (fun ks S Z a => by first | (obtain ⟨rfl, _⟩ := a; rfl) | (obtain ⟨_, rfl, _⟩ := a; rfl) | (obtain ⟨_, _, rfl, _⟩ := a; rfl) | (obtain ⟨_, _, _, rfl, _⟩ := a; rfl) | (obtain ⟨_, _, _, _, rfl, _⟩ := a; rfl) | (obtain ⟨_, _, _, _, _, rfl, _⟩ := a; rfl) | (obtain ⟨_, _, _, _, _, _, rfl, _⟩ := a; rfl)) h
theorem len_is_number_below {K : PySem.W.Frag} : ∀ vs H Q E, sp_is_number_below K vs H Q E → vs.length = 2 := fun _ _ _ _ h => sp_len (fun ks S Z a => by first | (obtain ⟨rfl, _⟩ := a; rfl) | (obtain ⟨_, rfl, _⟩ := a; rfl) | (obtain ⟨_, _, rfl, _⟩ := a; rfl) | (obtain ⟨_, _, _, rfl, _⟩ := a; rfl) | (obtain ⟨_, _, _, _, rfl, _⟩ := a; rfl) | (obtain ⟨_, _, _, _, _, rfl, _⟩ := a; rfl) | (obtain ⟨_, _, _, _, _, _, rfl, _⟩ := a; rfl)) h
theorem len_is_from_one {K : PySem.W.Frag} : ∀ vs H Q E, sp_is_from_one K vs H Q E → vs.length = 1 := fun _ _ _ _ h => sp_len (fun ks S Z a => by first | (obtain ⟨rfl, _⟩ := a; rfl) | (obtain ⟨_, rfl, _⟩ := a; rfl) | (obtain ⟨_, _, rfl, _⟩ := a; rfl) | (obtain ⟨_, _, _, rfl, _⟩ := a; rfl) | (obtain ⟨_, _, _, _, rfl, _⟩ := a; rfl) | (obtain ⟨_, _, _, _, _, rfl, _⟩ := a; rfl) | (obtain ⟨_, _, _, _, _, _, rfl, _⟩ := a; rfl)) h
theorem len_are_numbers_below {K : PySem.W.Frag} : ∀ vs H Q E, sp_are_numbers_below K vs H Q E → vs.length = 3 := fun _ _ _ _ h => sp_len (fun ks S Z a => by first | (obtain ⟨rfl, _⟩ := a; rfl) | (obtain ⟨_, rfl, _⟩ := a; rfl) | (obtain ⟨_, _, rfl, _⟩ := a; rfl) | (obtain ⟨_, _, _, rfl, _⟩ := a; rfl) | (obtain ⟨_, _, _, _, rfl, _⟩ := a; rfl) | (obtain ⟨_, _, _, _, _, rfl, _⟩ := a; rfl) | (obtain ⟨_, _, _, _, _, _, rfl, _⟩ := a; rfl)) h
theorem len_are_rows {K : PySem.W.Frag} : ∀ vs H Q E, sp_are_rows K vs H Q E → vs.length = 3 := fun _ _ _ _ h => sp_len (fun ks S Z a => by first | (obtain ⟨rfl, _⟩ := a; rfl) | (obtain ⟨_, rfl, _⟩ := a; rfl) | (obtain ⟨_, _, rfl, _⟩ := a; rfl) | (obtain ⟨_, _, _, rfl, _⟩ := a; rfl) | (obtain ⟨_, _, _, _, rfl, _⟩ := a; rfl) | (obtain ⟨_, _, _, _, _, rfl, _⟩ := a; rfl) | (obtain ⟨_, _, _, _, _, _, rfl, _⟩ := a; rfl)) h
theorem len_small_divisor {K : PySem.W.Frag} : ∀ vs H Q E, sp_small_divisor K vs H Q E → vs.length = 1 := fun _ _ _ _ h => sp_len (fun ks S Z a => by first | (obtain ⟨rfl, _⟩ := a; rfl) | (obtain ⟨_, rfl, _⟩ := a; rfl) | (obtain ⟨_, _, rfl, _⟩ := a; rfl) | (obtain ⟨_, _, _, rfl, _⟩ := a; rfl) | (obtain ⟨_, _, _, _, rfl, _⟩ := a; rfl) | (obtain ⟨_, _, _, _, _, rfl, _⟩ := a; rfl) | (obtain ⟨_, _, _, _, _, _, rfl, _⟩ := a; rfl)) h
theorem len_is_prime_number {K : PySem.W.Frag} : ∀ vs H Q E, sp_is_prime_number K vs H Q E → vs.length = 1 := fun _ _ _ _ h => sp_len (fun ks S Z a => by first | (obtain ⟨rfl, _⟩ := a; rfl) | (obtain ⟨_, rfl, _⟩ := a; rfl) | (obtain ⟨_, _, rfl, _⟩ := a; rfl) | (obtain ⟨_, _, _, rfl, _⟩ := a; rfl) | (obtain ⟨_, _, _, _, rfl, _⟩ := a; rfl) | (obtain ⟨_, _, _, _, _, rfl, _⟩ := a; rfl) | (obtain ⟨_, _, _, _, _, _, rfl, _⟩ := a; rfl)) h
theorem len_demand_prime {K : PySem.W.Frag} : ∀ vs H Q E, sp_demand_prime K vs H Q E → vs.length = 1 := fun _ _ _ _ h => sp_len (fun ks S Z a => by first | (obtain ⟨rfl, _⟩ := a; rfl) | (obtain ⟨_, rfl, _⟩ := a; rfl) | (obtain ⟨_, _, rfl, _⟩ := a; rfl) | (obtain ⟨_, _, _, rfl, _⟩ := a; rfl) | (obtain ⟨_, _, _, _, rfl, _⟩ := a; rfl) | (obtain ⟨_, _, _, _, _, rfl, _⟩ := a; rfl) | (obtain ⟨_, _, _, _, _, _, rfl, _⟩ := a; rfl)) h
theorem len_demand_from_one {K : PySem.W.Frag} : ∀ vs H Q E, sp_demand_from_one K vs H Q E → vs.length = 1 := fun _ _ _ _ h => sp_len (fun ks S Z a => by first | (obtain ⟨rfl, _⟩ := a; rfl) | (obtain ⟨_, rfl, _⟩ := a; rfl) | (obtain ⟨_, _, rfl, _⟩ := a; rfl) | (obtain ⟨_, _, _, rfl, _⟩ := a; rfl) | (obtain ⟨_, _, _, _, rfl, _⟩ := a; rfl) | (obtain ⟨_, _, _, _, _, rfl, _⟩ := a; rfl) | (obtain ⟨_, _, _, _, _, _, rfl, _⟩ := a; rfl)) h
theorem len_are_halls {K : PySem.W.Frag} : ∀ vs H Q E, sp_are_halls K vs H Q E → vs.length = 3 := fun _ _ _ _ h => sp_len (fun ks S Z a => by first | (obtain ⟨rfl, _⟩ := a; rfl) | (obtain ⟨_, rfl, _⟩ := a; rfl) | (obtain ⟨_, _, rfl, _⟩ := a; rfl) | (obtain ⟨_, _, _, rfl, _⟩ := a; rfl) | (obtain ⟨_, _, _, _, rfl, _⟩ := a; rfl) | (obtain ⟨_, _, _, _, _, rfl, _⟩ := a; rfl) | (obtain ⟨_, _, _, _, _, _, rfl, _⟩ := a; rfl)) h
theorem len_Book___init {K : PySem.W.Frag} : ∀ vs H Q E, sp_Book___init K vs H Q E → vs.length = 4 := fun _ _ _ _ h => by obtain ⟨x, dx, p, k, hs, vh, rfl, _⟩ := h; rfl
theorem len_demand_book {K : PySem.W.Frag} : ∀ vs H Q E, sp_demand_book K vs H Q E → vs.length = 1 := fun _ _ _ _ h => sp_len (fun ks S Z a => by first | (obtain ⟨rfl, _⟩ := a; rfl) | (obtain ⟨_, rfl, _⟩ := a; rfl) | (obtain ⟨_, _, rfl, _⟩ := a; rfl) | (obtain ⟨_, _, _, rfl, _⟩ := a; rfl) | (obtain ⟨_, _, _, _, rfl, _⟩ := a; rfl) | (obtain ⟨_, _, _, _, _, rfl, _⟩ := a; rfl) | (obtain ⟨_, _, _, _, _, _, rfl, _⟩ := a; rfl)) h
theorem len_is_prime {K : PySem.W.Frag} : ∀ vs H Q E, sp_is_prime K vs H Q E → vs.length = 1 := fun _ _ _ _ h => sp_len (fun ks S Z a => by first | (obtain ⟨rfl, _⟩ := a; rfl) | (obtain ⟨_, rfl, _⟩ := a; rfl) | (obtain ⟨_, _, rfl, _⟩ := a; rfl) | (obtain ⟨_, _, _, rfl, _⟩ := a; rfl) | (obtain ⟨_, _, _, _, rfl, _⟩ := a; rfl) | (obtain ⟨_, _, _, _, _, rfl, _⟩ := a; rfl) | (obtain ⟨_, _, _, _, _, _, rfl, _⟩ := a; rfl)) h
theorem len_head_line {K : PySem.W.Frag} : ∀ vs H Q E, sp_head_line K vs H Q E → vs.length = 1 := fun _ _ _ _ h => sp_len (fun ks S Z a => by first | (obtain ⟨rfl, _⟩ := a; rfl) | (obtain ⟨_, rfl, _⟩ := a; rfl) | (obtain ⟨_, _, rfl, _⟩ := a; rfl) | (obtain ⟨_, _, _, rfl, _⟩ := a; rfl) | (obtain ⟨_, _, _, _, rfl, _⟩ := a; rfl) | (obtain ⟨_, _, _, _, _, rfl, _⟩ := a; rfl) | (obtain ⟨_, _, _, _, _, _, rfl, _⟩ := a; rfl)) h
theorem len_row_word {K : PySem.W.Frag} : ∀ vs H Q E, sp_row_word K vs H Q E → vs.length = 1 := fun _ _ _ _ h => sp_len (fun ks S Z a => by first | (obtain ⟨rfl, _⟩ := a; rfl) | (obtain ⟨_, rfl, _⟩ := a; rfl) | (obtain ⟨_, _, rfl, _⟩ := a; rfl) | (obtain ⟨_, _, _, rfl, _⟩ := a; rfl) | (obtain ⟨_, _, _, _, rfl, _⟩ := a; rfl) | (obtain ⟨_, _, _, _, _, rfl, _⟩ := a; rfl) | (obtain ⟨_, _, _, _, _, _, rfl, _⟩ := a; rfl)) h
theorem len_hall_line {K : PySem.W.Frag} : ∀ vs H Q E, sp_hall_line K vs H Q E → vs.length = 1 := fun _ _ _ _ h => sp_len (fun ks S Z a => by first | (obtain ⟨rfl, _⟩ := a; rfl) | (obtain ⟨_, rfl, _⟩ := a; rfl) | (obtain ⟨_, _, rfl, _⟩ := a; rfl) | (obtain ⟨_, _, _, rfl, _⟩ := a; rfl) | (obtain ⟨_, _, _, _, rfl, _⟩ := a; rfl) | (obtain ⟨_, _, _, _, _, rfl, _⟩ := a; rfl) | (obtain ⟨_, _, _, _, _, _, rfl, _⟩ := a; rfl)) h
theorem len_lines_of_book {K : PySem.W.Frag} : ∀ vs H Q E, sp_lines_of_book K vs H Q E → vs.length = 1 := fun _ _ _ _ h => sp_len (fun ks S Z a => by first | (obtain ⟨rfl, _⟩ := a; rfl) | (obtain ⟨_, rfl, _⟩ := a; rfl) | (obtain ⟨_, _, rfl, _⟩ := a; rfl) | (obtain ⟨_, _, _, rfl, _⟩ := a; rfl) | (obtain ⟨_, _, _, _, rfl, _⟩ := a; rfl) | (obtain ⟨_, _, _, _, _, rfl, _⟩ := a; rfl) | (obtain ⟨_, _, _, _, _, _, rfl, _⟩ := a; rfl)) h
theorem len_head_read {K : PySem.W.Frag} : ∀ vs H Q E, sp_head_read K vs H Q E → vs.length = 1 := fun _ _ _ _ h => sp_len (fun ks S Z a => by first | (obtain ⟨rfl, _⟩ := a; rfl) | (obtain ⟨_, rfl, _⟩ := a; rfl) | (obtain ⟨_, _, rfl, _⟩ := a; rfl) | (obtain ⟨_, _, _, rfl, _⟩ := a; rfl) | (obtain ⟨_, _, _, _, rfl, _⟩ := a; rfl) | (obtain ⟨_, _, _, _, _, rfl, _⟩ := a; rfl) | (obtain ⟨_, _, _, _, _, _, rfl, _⟩ := a; rfl)) h
theorem len_row_read {K : PySem.W.Frag} : ∀ vs H Q E, sp_row_read K vs H Q E → vs.length = 3 := fun _ _ _ _ h => sp_len (fun ks S Z a => by first | (obtain ⟨rfl, _⟩ := a; rfl) | (obtain ⟨_, rfl, _⟩ := a; rfl) | (obtain ⟨_, _, rfl, _⟩ := a; rfl) | (obtain ⟨_, _, _, rfl, _⟩ := a; rfl) | (obtain ⟨_, _, _, _, rfl, _⟩ := a; rfl) | (obtain ⟨_, _, _, _, _, rfl, _⟩ := a; rfl) | (obtain ⟨_, _, _, _, _, _, rfl, _⟩ := a; rfl)) h
theorem len_rows_read {K : PySem.W.Frag} : ∀ vs H Q E, sp_rows_read K vs H Q E → vs.length = 3 := fun _ _ _ _ h => sp_len (fun ks S Z a => by first | (obtain ⟨rfl, _⟩ := a; rfl) | (obtain ⟨_, rfl, _⟩ := a; rfl) | (obtain ⟨_, _, rfl, _⟩ := a; rfl) | (obtain ⟨_, _, _, rfl, _⟩ := a; rfl) | (obtain ⟨_, _, _, _, rfl, _⟩ := a; rfl) | (obtain ⟨_, _, _, _, _, rfl, _⟩ := a; rfl) | (obtain ⟨_, _, _, _, _, _, rfl, _⟩ := a; rfl)) h
theorem len_halls_read {K : PySem.W.Frag} : ∀ vs H Q E, sp_halls_read K vs H Q E → vs.length = 3 := fun _ _ _ _ h => sp_len (fun ks S Z a => by first | (obtain ⟨rfl, _⟩ := a; rfl) | (obtain ⟨_, rfl, _⟩ := a; rfl) | (obtain ⟨_, _, rfl, _⟩ := a; rfl) | (obtain ⟨_, _, _, rfl, _⟩ := a; rfl) | (obtain ⟨_, _, _, _, rfl, _⟩ := a; rfl) | (obtain ⟨_, _, _, _, _, rfl, _⟩ := a; rfl) | (obtain ⟨_, _, _, _, _, _, rfl, _⟩ := a; rfl)) h
theorem len_book_aheadX {K : PySem.W.Frag} {D : Addr} : ∀ vs H Q E, sp_book_aheadX K D vs H Q E → vs.length = 2 := fun _ _ _ _ h => sp_len (fun ks S Z a => by first | (obtain ⟨rfl, _⟩ := a; rfl) | (obtain ⟨_, rfl, _⟩ := a; rfl) | (obtain ⟨_, _, rfl, _⟩ := a; rfl) | (obtain ⟨_, _, _, rfl, _⟩ := a; rfl) | (obtain ⟨_, _, _, _, rfl, _⟩ := a; rfl) | (obtain ⟨_, _, _, _, _, rfl, _⟩ := a; rfl) | (obtain ⟨_, _, _, _, _, _, rfl, _⟩ := a; rfl)) h
theorem len_lines_used {K : PySem.W.Frag} : ∀ vs H Q E, sp_lines_used K vs H Q E → vs.length = 1 := fun _ _ _ _ h => sp_len (fun ks S Z a => by first | (obtain ⟨rfl, _⟩ := a; rfl) | (obtain ⟨_, rfl, _⟩ := a; rfl) | (obtain ⟨_, _, rfl, _⟩ := a; rfl) | (obtain ⟨_, _, _, rfl, _⟩ := a; rfl) | (obtain ⟨_, _, _, _, rfl, _⟩ := a; rfl) | (obtain ⟨_, _, _, _, _, rfl, _⟩ := a; rfl) | (obtain ⟨_, _, _, _, _, _, rfl, _⟩ := a; rfl)) h
theorem len_write_book {K : PySem.W.Frag} : ∀ vs H Q E, sp_write_book K vs H Q E → vs.length = 1 := fun _ _ _ _ h => sp_len (fun ks S Z a => by first | (obtain ⟨rfl, _⟩ := a; rfl) | (obtain ⟨_, rfl, _⟩ := a; rfl) | (obtain ⟨_, _, rfl, _⟩ := a; rfl) | (obtain ⟨_, _, _, rfl, _⟩ := a; rfl) | (obtain ⟨_, _, _, _, rfl, _⟩ := a; rfl) | (obtain ⟨_, _, _, _, _, rfl, _⟩ := a; rfl) | (obtain ⟨_, _, _, _, _, _, rfl, _⟩ := a; rfl)) h
theorem len_read_bookX {K : PySem.W.Frag} {D : Addr} : ∀ vs H Q E, sp_read_bookX K D vs H Q E → vs.length = 1 := fun _ _ _ _ h => sp_len (fun ks S Z a => by first | (obtain ⟨rfl, _⟩ := a; rfl) | (obtain ⟨_, rfl, _⟩ := a; rfl) | (obtain ⟨_, _, rfl, _⟩ := a; rfl) | (obtain ⟨_, _, _, rfl, _⟩ := a; rfl) | (obtain ⟨_, _, _, _, rfl, _⟩ := a; rfl) | (obtain ⟨_, _, _, _, _, rfl, _⟩ := a; rfl) | (obtain ⟨_, _, _, _, _, _, rfl, _⟩ := a; rfl)) h
theorem len_law_box {K : PySem.W.Frag} : ∀ vs H Q E, sp_law_box K vs H Q E → vs.length = 1 := fun _ _ _ _ h => by obtain ⟨l, ns, rfl, _⟩ := h; rfl
theorem len_law_draw {K : PySem.W.Frag} : ∀ vs H Q E, sp_law_draw K vs H Q E → vs.length = 2 := fun _ _ _ _ h => spB_len (fun b ks S Z a => by first | (obtain ⟨rfl, _⟩ := a; rfl) | (obtain ⟨_, rfl, _⟩ := a; rfl) | (obtain ⟨_, _, rfl, _⟩ := a; rfl) | (obtain ⟨_, _, _, rfl, _⟩ := a; rfl) | (obtain ⟨_, _, _, _, rfl, _⟩ := a; rfl) | (obtain ⟨_, _, _, _, _, rfl, _⟩ := a; rfl) | (obtain ⟨_, _, _, _, _, _, rfl, _⟩ := a; rfl)) h
theorem len_law_same {K : PySem.W.Frag} : ∀ vs H Q E, sp_law_same K vs H Q E → vs.length = 2 := fun _ _ _ _ h => sp_len (fun ks S Z a => by first | (obtain ⟨rfl, _⟩ := a; rfl) | (obtain ⟨_, rfl, _⟩ := a; rfl) | (obtain ⟨_, _, rfl, _⟩ := a; rfl) | (obtain ⟨_, _, _, rfl, _⟩ := a; rfl) | (obtain ⟨_, _, _, _, rfl, _⟩ := a; rfl) | (obtain ⟨_, _, _, _, _, rfl, _⟩ := a; rfl) | (obtain ⟨_, _, _, _, _, _, rfl, _⟩ := a; rfl)) h
theorem len_law_number {K : PySem.W.Frag} : ∀ vs H Q E, sp_law_number K vs H Q E → vs.length = 1 := fun _ _ _ _ h => sp_len (fun ks S Z a => by first | (obtain ⟨rfl, _⟩ := a; rfl) | (obtain ⟨_, rfl, _⟩ := a; rfl) | (obtain ⟨_, _, rfl, _⟩ := a; rfl) | (obtain ⟨_, _, _, rfl, _⟩ := a; rfl) | (obtain ⟨_, _, _, _, rfl, _⟩ := a; rfl) | (obtain ⟨_, _, _, _, _, rfl, _⟩ := a; rfl) | (obtain ⟨_, _, _, _, _, _, rfl, _⟩ := a; rfl)) h
theorem len_law_prime {K : PySem.W.Frag} : ∀ vs H Q E, sp_law_prime K vs H Q E → vs.length = 1 := fun _ _ _ _ h => sp_len (fun ks S Z a => by first | (obtain ⟨rfl, _⟩ := a; rfl) | (obtain ⟨_, rfl, _⟩ := a; rfl) | (obtain ⟨_, _, rfl, _⟩ := a; rfl) | (obtain ⟨_, _, _, rfl, _⟩ := a; rfl) | (obtain ⟨_, _, _, _, rfl, _⟩ := a; rfl) | (obtain ⟨_, _, _, _, _, rfl, _⟩ := a; rfl) | (obtain ⟨_, _, _, _, _, _, rfl, _⟩ := a; rfl)) h
theorem len_law_read_row {K : PySem.W.Frag} : ∀ vs H Q E, sp_law_read_row K vs H Q E → vs.length = 3 := fun _ _ _ _ h => sp_len (fun ks S Z a => by first | (obtain ⟨rfl, _⟩ := a; rfl) | (obtain ⟨_, rfl, _⟩ := a; rfl) | (obtain ⟨_, _, rfl, _⟩ := a; rfl) | (obtain ⟨_, _, _, rfl, _⟩ := a; rfl) | (obtain ⟨_, _, _, _, rfl, _⟩ := a; rfl) | (obtain ⟨_, _, _, _, _, rfl, _⟩ := a; rfl) | (obtain ⟨_, _, _, _, _, _, rfl, _⟩ := a; rfl)) h
theorem len_law_read {K : PySem.W.Frag} : ∀ vs H Q E, sp_law_read K vs H Q E → vs.length = 1 := fun _ _ _ _ h => sp_len (fun ks S Z a => by first | (obtain ⟨rfl, _⟩ := a; rfl) | (obtain ⟨_, rfl, _⟩ := a; rfl) | (obtain ⟨_, _, rfl, _⟩ := a; rfl) | (obtain ⟨_, _, _, rfl, _⟩ := a; rfl) | (obtain ⟨_, _, _, _, rfl, _⟩ := a; rfl) | (obtain ⟨_, _, _, _, _, rfl, _⟩ := a; rfl) | (obtain ⟨_, _, _, _, _, _, rfl, _⟩ := a; rfl)) h
theorem len_law_row_text {K : PySem.W.Frag} : ∀ vs H Q E, sp_law_row_text K vs H Q E → vs.length = 3 := fun _ _ _ _ h => spB_len (fun b ks S Z a => by first | (obtain ⟨rfl, _⟩ := a; rfl) | (obtain ⟨_, rfl, _⟩ := a; rfl) | (obtain ⟨_, _, rfl, _⟩ := a; rfl) | (obtain ⟨_, _, _, rfl, _⟩ := a; rfl) | (obtain ⟨_, _, _, _, rfl, _⟩ := a; rfl) | (obtain ⟨_, _, _, _, _, rfl, _⟩ := a; rfl) | (obtain ⟨_, _, _, _, _, _, rfl, _⟩ := a; rfl)) h
theorem len_law_head_bent {K : PySem.W.Frag} : ∀ vs H Q E, sp_law_head_bent K vs H Q E → vs.length = 3 := fun _ _ _ _ h => spB_len (fun b ks S Z a => by first | (obtain ⟨rfl, _⟩ := a; rfl) | (obtain ⟨_, rfl, _⟩ := a; rfl) | (obtain ⟨_, _, rfl, _⟩ := a; rfl) | (obtain ⟨_, _, _, rfl, _⟩ := a; rfl) | (obtain ⟨_, _, _, _, rfl, _⟩ := a; rfl) | (obtain ⟨_, _, _, _, _, rfl, _⟩ := a; rfl) | (obtain ⟨_, _, _, _, _, _, rfl, _⟩ := a; rfl)) h
theorem len_law_hall_bent {K : PySem.W.Frag} : ∀ vs H Q E, sp_law_hall_bent K vs H Q E → vs.length = 4 := fun _ _ _ _ h => spB_len (fun b ks S Z a => by first | (obtain ⟨rfl, _⟩ := a; rfl) | (obtain ⟨_, rfl, _⟩ := a; rfl) | (obtain ⟨_, _, rfl, _⟩ := a; rfl) | (obtain ⟨_, _, _, rfl, _⟩ := a; rfl) | (obtain ⟨_, _, _, _, rfl, _⟩ := a; rfl) | (obtain ⟨_, _, _, _, _, rfl, _⟩ := a; rfl) | (obtain ⟨_, _, _, _, _, _, rfl, _⟩ := a; rfl)) h
theorem len_law_bent {K : PySem.W.Frag} : ∀ vs H Q E, sp_law_bent K vs H Q E → vs.length = 4 := fun _ _ _ _ h => spL_len (fun b ks S Z a => by first | (obtain ⟨rfl, _⟩ := a; rfl) | (obtain ⟨_, rfl, _⟩ := a; rfl) | (obtain ⟨_, _, rfl, _⟩ := a; rfl) | (obtain ⟨_, _, _, rfl, _⟩ := a; rfl) | (obtain ⟨_, _, _, _, rfl, _⟩ := a; rfl) | (obtain ⟨_, _, _, _, _, rfl, _⟩ := a; rfl) | (obtain ⟨_, _, _, _, _, _, rfl, _⟩ := a; rfl)) h
theorem len_law_right {K : PySem.W.Frag} : ∀ vs H Q E, sp_law_right K vs H Q E → vs.length = 1 := fun _ _ _ _ h => sp_len (fun ks S Z a => by first | (obtain ⟨rfl, _⟩ := a; rfl) | (obtain ⟨_, rfl, _⟩ := a; rfl) | (obtain ⟨_, _, rfl, _⟩ := a; rfl) | (obtain ⟨_, _, _, rfl, _⟩ := a; rfl) | (obtain ⟨_, _, _, _, rfl, _⟩ := a; rfl) | (obtain ⟨_, _, _, _, _, rfl, _⟩ := a; rfl) | (obtain ⟨_, _, _, _, _, _, rfl, _⟩ := a; rfl)) h
theorem len_law_all {K : PySem.W.Frag} : ∀ vs H Q E, sp_law_all K vs H Q E → vs.length = 1 := fun _ _ _ _ h => by obtain ⟨l, ns, rfl, _⟩ := h; rfl
theorem len_law {K : PySem.W.Frag} : ∀ vs H Q E, sp_law K vs H Q E → vs.length = 1 := fun _ _ _ _ h => by obtain ⟨l, ns, rfl, _⟩ := h; rfl
section
variable {P : Program} {w : World} {K : PySem.W.Frag} {mg : Str → Option Value} {base : Heap} {f D : Addr} {fd : FuncData}
set_option maxRecDepth 100000 in
theorem ok_is_figure (F : FnP K "is_figure" "is_figure" s_is_figure f fd) (gm : mg "is_figure" = some (.ref f)) (B : Bi K mg)  : Cl P w K mg base (L2N.CX P w) false "is_figure" 1 ["sign"] (sp_is_figure K) := by
  refine cl_of F gm sc_is_figure len_is_figure (fun _ _ _ _ _ _ us hl => match us, hl with | [_], _ => rfl) (fun cdv A outer s H vs Q E hr hg h => ⟨t_is_figure K, PSs.nox ?_, go_is_figure h⟩)
  have nd := sc_is_figure.nd
  have hu2 := hr.units
  have hu3 := hu65 hr
  exact (pss_one (ps_ret (pe_and (pe_cmpR (op_neP hu2) (pv 0) pe_str (nomark _)) (pe_one (pe_cmpR op_inS (pv 0) (pe_cstS rfl (B.c_FIGURES)) rfl)))))
set_option maxRecDepth 100000 in
theorem ok_figures_end (F : FnP K "figures_end" "figures_end" s_figures_end f fd) (gm : mg "figures_end" = some (.ref f)) (B : Bi K mg) (C_is_figure : Cl P w K mg base (L2N.CX P w) false "is_figure" 1 ["sign"] (sp_is_figure K)) : Cl P w K mg base (L2N.CX P w) false "figures_end" 2 ["text", "at"] (sp_figures_end K) := by
  refine cl_of F gm sc_figures_end len_figures_end (fun _ _ _ _ _ _ us hl => match us, hl with | [_, _], _ => rfl) (fun cdv A outer s H vs Q E hr hg h => ⟨t_figures_end K, PSs.nox ?_, go_figures_end h⟩)
  have nd := sc_figures_end.nd
  have hu2 := hr.units
  have hu3 := hu65 hr
  exact (pss_cons (ps_set (i := 2) nd rfl (Or.inl rfl) (pv 1))
    (pss_cons (ps_while PassesOwn.never (pt_truth (pe_cl C_is_figure (hr.mono (by decide)) (fun z => Bool.noConfusion z) passF rfl (pa_cons (pe_slice sl_P (pv 0) (po_some (pv 2)) (po_some (pe_op op_addP (pv 2) pe_int))) pa_nil)) (by intro _; rfl)) (pss_one (ps_aug (i := 2) nd rfl (Or.inl rfl) pe_int ip_add)))
    (pss_one (ps_ret (pv 2)))))
set_option maxRecDepth 100000 in
theorem ok_are_figures (F : FnP K "are_figures" "are_figures" s_are_figures f fd) (gm : mg "are_figures" = some (.ref f)) (B : Bi K mg) (C_figures_end : Cl P w K mg base (L2N.CX P w) false "figures_end" 2 ["text", "at"] (sp_figures_end K)) : Cl P w K mg base (L2N.CX P w) false "are_figures" 3 ["word"] (sp_are_figures K) := by
  refine cl_of F gm sc_are_figures len_are_figures (fun _ _ _ _ _ _ us hl => match us, hl with | [_], _ => rfl) (fun cdv A outer s H vs Q E hr hg h => ⟨t_are_figures K, PSs.nox ?_, go_are_figures h⟩)
  have nd := sc_are_figures.nd
  have hu2 := hr.units
  have hu3 := hu65 hr
  exact (pss_cons (ps_if (PW.pt (pw_or (pt_cmpR (op_eqP hu2) (pv 0) pe_str (nomark _)) (pw_or1 (pt_cmpR (op_neP hu2) (pe_cl C_figures_end (hr.mono (by decide)) (fun z => Bool.noConfusion z) passF rfl (pa_cons (pv 0) (pa_cons pe_int pa_nil))) (pe_callB call_lenP rfl B.b_len (by decide +kernel) (pa_cons (pv 0) pa_nil)) (nomark _))))) (pss_one (ps_ret pe_bl)) pss_nil)
    (pss_one (ps_ret (pe_or (pe_cmpR (op_eqP hu2) (pv 0) pe_str (nomark _)) (pe_one (pe_cmpR (op_neP hu2) (pe_ix ix_seq (pv 0) pe_int (fun _ _ => rfl)) pe_str (nomark _)))))))
set_option maxRecDepth 100000 in
theorem ok_number_of (F : FnP K "number_of" "number_of" s_number_of f fd) (gm : mg "number_of" = some (.ref f)) (B : Bi K mg) (C_are_figures : Cl P w K mg base (L2N.CX P w) false "are_figures" 3 ["word"] (sp_are_figures K)) : Cl P w K mg base (L2N.CX P w) false "number_of" 4 ["word", "most"] (sp_number_of K) := by
  refine cl_of F gm sc_number_of len_number_of (fun _ _ _ _ _ _ us hl => match us, hl with | [_, _], _ => rfl) (fun cdv A outer s H vs Q E hr hg h => ⟨t_number_of K, PSs.nox ?_, go_number_of h⟩)
  have nd := sc_number_of.nd
  have hu2 := hr.units
  have hu3 := hu65 hr
  exact (pss_cons (ps_if (PW.pt (pw_or (pt_cmpR op_gt (pe_callB call_lenP rfl B.b_len (by decide +kernel) (pa_cons (pv 0) pa_nil)) (pv 1) (nomark _)) (pw_or1 (pt_not (pt_truth (pe_cl C_are_figures (hr.mono (by decide)) (fun z => Bool.noConfusion z) passF rfl (pa_cons (pv 0) pa_nil)) (by intro _; rfl)))))) (pss_one (ps_ret pe_non)) pss_nil)
    (pss_one (ps_ret (pe_callTy call_intP rfl B.b_int (by decide +kernel) (pa_cons (pv 0) pa_nil)))))
set_option maxRecDepth 100000 in
theorem ok_any_number (F : FnP K "any_number" "any_number" s_any_number f fd) (gm : mg "any_number" = some (.ref f)) (B : Bi K mg) (C_number_of : Cl P w K mg base (L2N.CX P w) false "number_of" 4 ["word", "most"] (sp_number_of K)) : Cl P w K mg base (L2N.CX P w) false "any_number" 5 ["word"] (sp_any_number K) := by
  refine cl_of F gm sc_any_number len_any_number (fun _ _ _ _ _ _ us hl => match us, hl with | [_], _ => rfl) (fun cdv A outer s H vs Q E hr hg h => ⟨t_any_number K, PSs.nox ?_, go_any_number h⟩)
  have nd := sc_any_number.nd
  have hu2 := hr.units
  have hu3 := hu65 hr
  exact (pss_one (ps_ret (pe_cl C_number_of (hr.mono (by decide)) (fun z => Bool.noConfusion z) passF rfl (pa_cons (pv 0) (pa_cons (pe_cstI rfl (B.c_LONGEST)) pa_nil)))))
set_option maxRecDepth 100000 in
theorem ok_number_from_one (F : FnP K "number_from_one" "number_from_one" s_number_from_one f fd) (gm : mg "number_from_one" = some (.ref f)) (B : Bi K mg) (C_any_number : Cl P w K mg base (L2N.CX P w) false "any_number" 5 ["word"] (sp_any_number K)) : Cl P w K mg base (L2N.CX P w) false "number_from_one" 6 ["word"] (sp_number_from_one K) := by
  refine cl_of F gm sc_number_from_one len_number_from_one (fun _ _ _ _ _ _ us hl => match us, hl with | [_], _ => rfl) (fun cdv A outer s H vs Q E hr hg h => ⟨t_number_from_one K, PSs.nox ?_, go_number_from_one h⟩)
  have nd := sc_number_from_one.nd
  have hu2 := hr.units
  have hu3 := hu65 hr
  exact (pss_cons (ps_set (i := 1) nd rfl (Or.inl rfl) (pe_cl C_any_number (hr.mono (by decide)) (fun z => Bool.noConfusion z) passF rfl (pa_cons (pv 0) pa_nil)))
    (pss_one (ps_ret (pe_ifExp (pt_cmpR (op_eqP hu2) (pv 1) pe_int (nomark _)) pe_non (pv 1)))))
set_option maxRecDepth 100000 in
theorem ok_number_below (F : FnP K "number_below" "number_below" s_number_below f fd) (gm : mg "number_below" = some (.ref f)) (B : Bi K mg) (C_any_number : Cl P w K mg base (L2N.CX P w) false "any_number" 5 ["word"] (sp_any_number K)) : Cl P w K mg base (L2N.CX P w) false "number_below" 6 ["word", "limit"] (sp_number_below K) := by
  refine cl_of F gm sc_number_below len_number_below (fun _ _ _ _ _ _ us hl => match us, hl with | [_, _], _ => rfl) (fun cdv A outer s H vs Q E hr hg h => ⟨t_number_below K, PSs.nox ?_, go_number_below h⟩)
  have nd := sc_number_below.nd
  have hu2 := hr.units
  have hu3 := hu65 hr
  exact (pss_cons (ps_set (i := 2) nd rfl (Or.inl rfl) (pe_cl C_any_number (hr.mono (by decide)) (fun z => Bool.noConfusion z) passF rfl (pa_cons (pv 0) pa_nil)))
    (pss_cons (ps_if (PW.pt (pw_or (pt_cmpR op_isN1 (pv 2) pe_non (nomark _)) (pw_or1 (pt_cmpR op_ge (pv 2) (pv 1) (nomark _))))) (pss_one (ps_ret pe_non)) pss_nil)
    (pss_one (ps_ret (pv 2)))))
set_option maxRecDepth 100000 in
theorem ok_numbers_below (F : FnP K "numbers_below" "numbers_below" s_numbers_below f fd) (gm : mg "numbers_below" = some (.ref f)) (B : Bi K mg) (C_number_below : Cl P w K mg base (L2N.CX P w) false "number_below" 6 ["word", "limit"] (sp_number_below K)) : Cl P w K mg base (L2N.CX P w) false "numbers_below" 7 ["words", "many", "limit"] (sp_numbers_below K) := by
  refine cl_of F gm sc_numbers_below len_numbers_below (fun _ _ _ _ _ _ us hl => match us, hl with | [_, _, _], _ => rfl) (fun cdv A outer s H vs Q E hr hg h => ⟨t_numbers_below K, PSs.nox ?_, go_numbers_below h⟩)
  have nd := sc_numbers_below.nd
  have hu2 := hr.units
  have hu3 := hu65 hr
  exact (pss_cons (ps_setLc (i := 3) (own := [("word", 4)]) (g := gName 4) (tt := tYes) rfl nd rfl rfl (sw_true rfl rfl rfl (by decide +kernel)) (pi_any (pv 0)) (blkOk_by (own := [("word", 4)]) (N := N_numbers_below) (sc := defScope s_numbers_below) (by decide +kernel)) (fun _ _ _ _ _ => pg_name (i := 4) nd rfl (Or.inl rfl)) (fun _ _ _ _ _ => pts_nil) (fun _ _ _ _ _ => (pe_cl C_number_below (hr.mono (by decide)) (fun z => Bool.noConfusion z) passF rfl (pa_cons (pv 4) (pa_cons (pv 2) pa_nil)))))
    (pss_cons (ps_if (PW.pt (pw_or (pt_cmpR (op_neP hu2) (pe_callB call_lenP rfl B.b_len (by decide +kernel) (pa_cons (pv 3) pa_nil)) (pv 1) (nomark _)) (pw_or1 (pt_cmpR (op_inD hu3) pe_non (pv 3) rfl)))) (pss_one (ps_ret pe_non)) pss_nil)
    (pss_one (ps_ret (pe_callTy call_tupP rfl B.b_tuple (by decide +kernel) (pa_cons (pv 3) pa_nil))))))
set_option maxRecDepth 100000 in
theorem ok_is_integer (F : FnP K "is_integer" "is_integer" s_is_integer f fd) (gm : mg "is_integer" = some (.ref f)) (B : Bi K mg)  : Cl P w K mg base (L2N.CX P w) false "is_integer" 1 ["value"] (sp_is_integer K) := by
  refine cl_of F gm sc_is_integer len_is_integer (fun _ _ _ _ _ _ us hl => match us, hl with | [_], _ => rfl) (fun cdv A outer s H vs Q E hr hg h => ⟨t_is_integer K, PSs.nox ?_, go_is_integer h⟩)
  have nd := sc_is_integer.nd
  have hu2 := hr.units
  have hu3 := hu65 hr
  exact (pss_one (ps_ret (pe_and (pe_callB call_isi rfl B.b_isinstance (by decide +kernel) (pa_cons (pv 0) (pa_cons (pe_bltn (v := .ty "int") (u := .type "int") rfl B.b_int (by decide +kernel) rfl) pa_nil))) (pe_one (pe_notT (pe_callB call_isi rfl B.b_isinstance (by decide +kernel) (pa_cons (pv 0) (pa_cons (pe_bltn (v := .ty "bool") (u := .type "bool") rfl B.b_bool (by decide +kernel) rfl) pa_nil))))))))
set_option maxRecDepth 100000 in
theorem ok_is_number_below (F : FnP K "is_number_below" "is_number_below" s_is_number_below f fd) (gm : mg "is_number_below" = some (.ref f)) (B : Bi K mg) (C_is_integer : Cl P w K mg base (L2N.CX P w) false "is_integer" 1 ["value"] (sp_is_integer K)) : Cl P w K mg base (L2N.CX P w) false "is_number_below" 2 ["value", "limit"] (sp_is_number_below K) := by
  refine cl_of F gm sc_is_number_below len_is_number_below (fun _ _ _ _ _ _ us hl => match us, hl with | [_, _], _ => rfl) (fun cdv A outer s H vs Q E hr hg h => ⟨t_is_number_below K, PSs.nox ?_, go_is_number_below h⟩)
  have nd := sc_is_number_below.nd
  have hu2 := hr.units
  have hu3 := hu65 hr
  exact (pss_one (ps_ret (pe_and (pe_cl C_is_integer (hr.mono (by decide)) (fun z => Bool.noConfusion z) passF rfl (pa_cons (pv 0) pa_nil)) (pe_one (pe_chain op_le op_lt pe_int (pv 0) (pv 1))))))
set_option maxRecDepth 100000 in
theorem ok_is_from_one (F : FnP K "is_from_one" "is_from_one" s_is_from_one f fd) (gm : mg "is_from_one" = some (.ref f)) (B : Bi K mg) (C_is_integer : Cl P w K mg base (L2N.CX P w) false "is_integer" 1 ["value"] (sp_is_integer K)) : Cl P w K mg base (L2N.CX P w) false "is_from_one" 2 ["value"] (sp_is_from_one K) := by
  refine cl_of F gm sc_is_from_one len_is_from_one (fun _ _ _ _ _ _ us hl => match us, hl with | [_], _ => rfl) (fun cdv A outer s H vs Q E hr hg h => ⟨t_is_from_one K, PSs.nox ?_, go_is_from_one h⟩)
  have nd := sc_is_from_one.nd
  have hu2 := hr.units
  have hu3 := hu65 hr
  exact (pss_one (ps_ret (pe_and (pe_cl C_is_integer (hr.mono (by decide)) (fun z => Bool.noConfusion z) passF rfl (pa_cons (pv 0) pa_nil)) (pe_one (pe_cmpR op_ge (pv 0) pe_int (nomark _))))))
set_option maxRecDepth 100000 in
theorem ok_are_numbers_below (F : FnP K "are_numbers_below" "are_numbers_below" s_are_numbers_below f fd) (gm : mg "are_numbers_below" = some (.ref f)) (B : Bi K mg) (C_is_number_below : Cl P w K mg base (L2N.CX P w) false "is_number_below" 2 ["value", "limit"] (sp_is_number_below K)) : Cl P w K mg base (L2N.CX P w) false "are_numbers_below" 3 ["value", "many", "limit"] (sp_are_numbers_below K) := by
  refine cl_of F gm sc_are_numbers_below len_are_numbers_below (fun _ _ _ _ _ _ us hl => match us, hl with | [_, _, _], _ => rfl) (fun cdv A outer s H vs Q E hr hg h => ⟨t_are_numbers_below K, PSs.nox ?_, go_are_numbers_below h⟩)
  have nd := sc_are_numbers_below.nd
  have hu2 := hr.units
  have hu3 := hu65 hr
  exact (pss_cons (ps_if (PW.pt (pw_or (pt_not (pt_truth (pe_callB call_isi rfl B.b_isinstance (by decide +kernel) (pa_cons (pv 0) (pa_cons (pe_bltn (v := .ty "tuple") (u := .type "tuple") rfl B.b_tuple (by decide +kernel) rfl) pa_nil))) (by intro _; rfl))) (pw_or1 (pt_cmpR (op_neP hu2) (pe_callB call_lenP rfl B.b_len (by decide +kernel) (pa_cons (pv 0) pa_nil)) (pv 1) (nomark _))))) (pss_one (ps_ret pe_bl)) pss_nil)
    (pss_one (ps_ret (pe_callB (call_allP rfl) rfl B.b_all (by decide +kernel) (pa_cons (pe_lc (own := [("one", 3)]) (g := gName 3) (tt := tYes) rfl nd (pi_any (pv 0)) (blkOk_by (own := [("one", 3)]) (N := N_are_numbers_below) (sc := defScope s_are_numbers_below) (by decide +kernel)) (fun _ _ _ _ _ => pg_name (i := 3) nd rfl (Or.inl rfl)) (fun _ _ _ _ _ => pts_nil) (fun _ _ _ _ _ => (pe_cl C_is_number_below (hr.mono (by decide)) (fun z => Bool.noConfusion z) passF rfl (pa_cons (pv 3) (pa_cons (pv 2) pa_nil))))) pa_nil)))))
set_option maxRecDepth 100000 in
theorem ok_are_rows (F : FnP K "are_rows" "are_rows" s_are_rows f fd) (gm : mg "are_rows" = some (.ref f)) (B : Bi K mg) (C_are_numbers_below : Cl P w K mg base (L2N.CX P w) false "are_numbers_below" 3 ["value", "many", "limit"] (sp_are_numbers_below K)) : Cl P w K mg base (L2N.CX P w) false "are_rows" 4 ["value", "many", "limit"] (sp_are_rows K) := by
  refine cl_of F gm sc_are_rows len_are_rows (fun _ _ _ _ _ _ us hl => match us, hl with | [_, _, _], _ => rfl) (fun cdv A outer s H vs Q E hr hg h => ⟨t_are_rows K, PSs.nox ?_, go_are_rows h⟩)
  have nd := sc_are_rows.nd
  have hu2 := hr.units
  have hu3 := hu65 hr
  exact (pss_one (ps_ret (pe_and (pe_callB call_isi rfl B.b_isinstance (by decide +kernel) (pa_cons (pv 0) (pa_cons (pe_bltn (v := .ty "tuple") (u := .type "tuple") rfl B.b_tuple (by decide +kernel) rfl) pa_nil))) (pe_one (pe_callB (call_allP rfl) rfl B.b_all (by decide +kernel) (pa_cons (pe_lc (own := [("one", 3)]) (g := gName 3) (tt := tYes) rfl nd (pi_any (pv 0)) (blkOk_by (own := [("one", 3)]) (N := N_are_rows) (sc := defScope s_are_rows) (by decide +kernel)) (fun _ _ _ _ _ => pg_name (i := 3) nd rfl (Or.inl rfl)) (fun _ _ _ _ _ => pts_nil) (fun _ _ _ _ _ => (pe_cl C_are_numbers_below (hr.mono (by decide)) (fun z => Bool.noConfusion z) passF rfl (pa_cons (pv 3) (pa_cons (pv 1) (pa_cons (pv 2) pa_nil)))))) pa_nil))))))
theorem ok_is_witness (F : FnP K "is_witness" "is_witness" s_is_witness f fd) (gm : mg "is_witness" = some (.ref f)) (B : Bi K mg) : Cl P w K mg base (L2N.CX P w) false "is_witness" 1 ["base", "number"] (sp_is_witness K) := cl_void F gm (fun _ _ _ _ h => h) (fun _ _ _ _ _ _ us hl => match us, hl with | [_, _], _ => rfl)
set_option maxRecDepth 100000 in
theorem ok_small_divisor (F : FnP K "small_divisor" "small_divisor" s_small_divisor f fd) (gm : mg "small_divisor" = some (.ref f)) (B : Bi K mg) (hT : TupG K "FIRST" firstL) : Cl P w K mg base (L2N.CX P w) false "small_divisor" 1 ["number"] (sp_small_divisor K) := by
  refine cl_of F gm sc_small_divisor len_small_divisor (fun _ _ _ _ _ _ us hl => match us, hl with | [_], _ => rfl) (fun cdv A outer s H vs Q E hr hg h => ⟨t_small_divisor K, PSs.nox ?_, go_small_divisor hT h⟩)
  have nd := sc_small_divisor.nd
  have hu2 := hr.units
  have hu3 := hu65 hr
  exact (pss_cons (ps_for PassesOwn.never rfl (pi_any (pe_glob rfl B.c_FIRST rfl)) (pg_name (i := 1) nd rfl (Or.inl rfl)) (pss_one (ps_if (pt_cmpR (op_eqP hu2) (pe_op op_mod (pv 0) (pv 1)) pe_int (nomark _)) (pss_one (ps_ret (pv 1))) pss_nil)))
    (pss_one (ps_ret pe_non)))
set_option maxRecDepth 100000 in
theorem ok_is_prime_number (F : FnP K "is_prime_number" "is_prime_number" s_is_prime_number f fd) (gm : mg "is_prime_number" = some (.ref f)) (B : Bi K mg) (C_is_witness : Cl P w K mg base (L2N.CX P w) false "is_witness" 1 ["base", "number"] (sp_is_witness K)) (C_small_divisor : Cl P w K mg base (L2N.CX P w) false "small_divisor" 1 ["number"] (sp_small_divisor K))(hT : TupG K "FIRST" firstL) : Cl P w K mg base (L2N.CX P w) false "is_prime_number" 2 ["number"] (sp_is_prime_number K) := by
  refine cl_of F gm sc_is_prime_number len_is_prime_number (fun _ _ _ _ _ _ us hl => match us, hl with | [_], _ => rfl) (fun cdv A outer s H vs Q E hr hg h => ⟨t_is_prime_number K, PSs.nox ?_, go_is_prime_number hT h⟩)
  have nd := sc_is_prime_number.nd
  have hu2 := hr.units
  have hu3 := hu65 hr
  exact (pss_cons (ps_if (pt_cmpR op_lt (pv 0) pe_int (nomark _)) (pss_one (ps_ret pe_bl)) pss_nil)
    (pss_cons (ps_set (i := 1) nd rfl (Or.inl rfl) (pe_cl C_small_divisor (hr.mono (by decide)) (fun z => Bool.noConfusion z) passF rfl (pa_cons (pv 0) pa_nil)))
    (pss_cons (ps_if (pt_cmpR op_notN1 (pv 1) pe_non (nomark _)) (pss_one (ps_ret (pe_cmpR (op_eqP hu2) (pv 1) (pv 0) (nomark _)))) pss_nil)
    (pss_cons (ps_for PassesOwn.never rfl (pi_any (pe_glob rfl B.c_FIRST rfl)) (pg_name (i := 2) nd rfl (Or.inl rfl)) (pss_cons (ps_if (pt_cmpR op_gt (pe_op op_mulP (pv 2) (pv 2)) (pv 0) (nomark _)) (pss_one (ps_ret pe_bl)) pss_nil)
    (pss_one (ps_if (pt_truth (pe_cl C_is_witness (hr.mono (by decide)) (fun z => Bool.noConfusion z) passF rfl (pa_cons (pv 2) (pa_cons (pv 0) pa_nil))) (by intro _; rfl)) (pss_one (ps_ret pe_bl)) pss_nil))))
    (pss_one (ps_ret pe_bl))))))
set_option maxRecDepth 100000 in
theorem ok_demand_prime (F : FnP K "demand_prime" "demand_prime" s_demand_prime f fd) (gm : mg "demand_prime" = some (.ref f)) (B : Bi K mg) (C_is_integer : Cl P w K mg base (L2N.CX P w) false "is_integer" 1 ["value"] (sp_is_integer K)) (C_is_prime_number : Cl P w K mg base (L2N.CX P w) false "is_prime_number" 2 ["number"] (sp_is_prime_number K)) : Cl P w K mg base (L2N.CX P w) false "demand_prime" 3 ["p"] (sp_demand_prime K) := by
  refine cl_of F gm sc_demand_prime len_demand_prime (fun _ _ _ _ _ _ us hl => match us, hl with | [_], _ => rfl) (fun cdv A outer s H vs Q E hr hg h => ⟨t_demand_prime K, PSs.nox ?_, go_demand_prime h⟩)
  have nd := sc_demand_prime.nd
  have hu2 := hr.units
  have hu3 := hu65 hr
  exact (pss_one (ps_if (PW.pt (pw_or (pt_not (pt_truth (pe_cl C_is_integer (hr.mono (by decide)) (fun z => Bool.noConfusion z) passF rfl (pa_cons (pv 0) pa_nil)) (by intro _; rfl))) (pw_or1 (pt_not (pt_truth (pe_cl C_is_prime_number (hr.mono (by decide)) (fun z => Bool.noConfusion z) passF rfl (pa_cons (pv 0) pa_nil)) (by intro _; rfl)))))) (pss_one ps_never) pss_nil))
set_option maxRecDepth 100000 in
theorem ok_demand_from_one (F : FnP K "demand_from_one" "demand_from_one" s_demand_from_one f fd) (gm : mg "demand_from_one" = some (.ref f)) (B : Bi K mg) (C_is_from_one : Cl P w K mg base (L2N.CX P w) false "is_from_one" 2 ["value"] (sp_is_from_one K)) : Cl P w K mg base (L2N.CX P w) false "demand_from_one" 3 ["value"] (sp_demand_from_one K) := by
  refine cl_of F gm sc_demand_from_one len_demand_from_one (fun _ _ _ _ _ _ us hl => match us, hl with | [_], _ => rfl) (fun cdv A outer s H vs Q E hr hg h => ⟨t_demand_from_one K, PSs.nox ?_, go_demand_from_one h⟩)
  have nd := sc_demand_from_one.nd
  have hu2 := hr.units
  have hu3 := hu65 hr
  exact (pss_one (ps_if (pt_not (pt_truth (pe_cl C_is_from_one (hr.mono (by decide)) (fun z => Bool.noConfusion z) passF rfl (pa_cons (pv 0) pa_nil)) (by intro _; rfl))) (pss_one ps_never) pss_nil))
set_option maxRecDepth 100000 in
theorem ok_are_halls (F : FnP K "are_halls" "are_halls" s_are_halls f fd) (gm : mg "are_halls" = some (.ref f)) (B : Bi K mg) (C_are_rows : Cl P w K mg base (L2N.CX P w) false "are_rows" 4 ["value", "many", "limit"] (sp_are_rows K)) : Cl P w K mg base (L2N.CX P w) false "are_halls" 5 ["p", "k", "value"] (sp_are_halls K) := by
  refine cl_of F gm sc_are_halls len_are_halls (fun _ _ _ _ _ _ us hl => match us, hl with | [_, _, _], _ => rfl) (fun cdv A outer s H vs Q E hr hg h => ⟨t_are_halls K, PSs.nox ?_, go_are_halls h⟩)
  have nd := sc_are_halls.nd
  have hu2 := hr.units
  have hu3 := hu65 hr
  exact (pss_one (ps_ret (pe_and (pe_callB call_isi rfl B.b_isinstance (by decide +kernel) (pa_cons (pv 2) (pa_cons (pe_bltn (v := .ty "tuple") (u := .type "tuple") rfl B.b_tuple (by decide +kernel) rfl) pa_nil))) (pe_and (pe_cmpR op_gt (pe_callB call_lenP rfl B.b_len (by decide +kernel) (pa_cons (pv 2) pa_nil)) pe_int (nomark _)) (pe_one (pe_callB (call_allP rfl) rfl B.b_all (by decide +kernel) (pa_cons (pe_lc (own := [("rows", 3)]) (g := gName 3) (tt := tYes) rfl nd (pi_any (pv 2)) (blkOk_by (own := [("rows", 3)]) (N := N_are_halls) (sc := defScope s_are_halls) (by decide +kernel)) (fun _ _ _ _ _ => pg_name (i := 3) nd rfl (Or.inl rfl)) (fun _ _ _ _ _ => pts_nil) (fun _ _ _ _ _ => (pe_cl C_are_rows (hr.mono (by decide)) (fun z => Bool.noConfusion z) passF rfl (pa_cons (pv 3) (pa_cons (pv 1) (pa_cons (pv 0) pa_nil)))))) pa_nil)))))))
set_option maxRecDepth 100000 in
theorem ok_demand_book (F : FnP K "demand_book" "demand_book" s_demand_book f fd) (gm : mg "demand_book" = some (.ref f)) (B : Bi K mg) (BC : BkC K) : Cl P w K mg base (L2N.CX P w) false "demand_book" 1 ["book"] (sp_demand_book K) := by
  refine cl_of F gm sc_demand_book len_demand_book (fun _ _ _ _ _ _ us hl => match us, hl with | [_], _ => rfl) (fun cdv A outer s H vs Q E hr hg h => ⟨t_demand_book K, PSs.nox ?_, go_demand_book BC h⟩)
  have nd := sc_demand_book.nd
  have hu2 := hr.units
  have hu3 := hu65 hr
  exact (pss_one (ps_if (pt_not (pt_truth (pe_callB call_isi rfl B.b_isinstance (by decide +kernel) (pa_cons (pv 0) (pa_cons (pe_glob rfl B.k_Book rfl) pa_nil))) (by intro _; rfl))) (pss_one ps_never) pss_nil))
set_option maxRecDepth 100000 in
theorem ok_is_prime (F : FnP K "is_prime" "is_prime" s_is_prime f fd) (gm : mg "is_prime" = some (.ref f)) (B : Bi K mg) (C_is_integer : Cl P w K mg base (L2N.CX P w) false "is_integer" 1 ["value"] (sp_is_integer K)) (C_is_prime_number : Cl P w K mg base (L2N.CX P w) false "is_prime_number" 2 ["number"] (sp_is_prime_number K)) : Cl P w K mg base (L2N.CX P w) false "is_prime" 3 ["value"] (sp_is_prime K) := by
  refine cl_of F gm sc_is_prime len_is_prime (fun _ _ _ _ _ _ us hl => match us, hl with | [_], _ => rfl) (fun cdv A outer s H vs Q E hr hg h => ⟨t_is_prime K, PSs.nox ?_, go_is_prime h⟩)
  have nd := sc_is_prime.nd
  have hu2 := hr.units
  have hu3 := hu65 hr
  exact (pss_one (ps_ret (pe_and (pe_cl C_is_integer (hr.mono (by decide)) (fun z => Bool.noConfusion z) passF rfl (pa_cons (pv 0) pa_nil)) (pe_one (pe_cl C_is_prime_number (hr.mono (by decide)) (fun z => Bool.noConfusion z) passF rfl (pa_cons (pv 0) pa_nil))))))
set_option maxRecDepth 100000 in
theorem ok_head_line (F : FnP K "head_line" "head_line" s_head_line f fd) (gm : mg "head_line" = some (.ref f)) (B : Bi K mg) (BC : BkC K) : Cl P w K mg base (L2N.CX P w) false "head_line" 1 ["book"] (sp_head_line K) := by
  refine cl_of F gm sc_head_line len_head_line (fun _ _ _ _ _ _ us hl => match us, hl with | [_], _ => rfl) (fun cdv A outer s H vs Q E hr hg h => ⟨t_head_line K, PSs.nox ?_, go_head_line BC h⟩)
  have nd := sc_head_line.nd
  have hu2 := hr.units
  have hu3 := hu65 hr
  exact (pss_one (ps_ret (pe_joined (PJ.cons (pe_fmt (pe_cstS rfl (B.c_BOOK))) (PJ.cons pe_str (PJ.cons (pe_fmt (pe_fld (pv 0) rfl)) (PJ.cons pe_str (PJ.cons (pe_fmt (pe_fld (pv 0) rfl)) PJ.nil))))))))
set_option maxRecDepth 100000 in
theorem ok_row_word (F : FnP K "row_word" "row_word" s_row_word f fd) (gm : mg "row_word" = some (.ref f)) (B : Bi K mg)  : Cl P w K mg base (L2N.CX P w) false "row_word" 1 ["row"] (sp_row_word K) := by
  refine cl_of F gm sc_row_word len_row_word (fun _ _ _ _ _ _ us hl => match us, hl with | [_], _ => rfl) (fun cdv A outer s H vs Q E hr hg h => ⟨t_row_word K, PSs.nox ?_, go_row_word h⟩)
  have nd := sc_row_word.nd
  have hu2 := hr.units
  have hu3 := hu65 hr
  exact (pss_one (ps_ret (pe_m1 PySem.F.slot_str_join PySem.F.type_str_join mt_joinP pe_str (pe_lc (own := [("number", 1)]) (g := gName 1) (tt := tYes) rfl nd (pi_any (pv 0)) (blkOk_by (own := [("number", 1)]) (N := N_row_word) (sc := defScope s_row_word) (by decide +kernel)) (fun _ _ _ _ _ => pg_name (i := 1) nd rfl (Or.inl rfl)) (fun _ _ _ _ _ => pts_nil) (fun _ _ _ _ _ => (pe_callTy call_strP rfl B.b_str (by decide +kernel) (pa_cons (pv 1) pa_nil)))))))
set_option maxRecDepth 100000 in
theorem ok_hall_line (F : FnP K "hall_line" "hall_line" s_hall_line f fd) (gm : mg "hall_line" = some (.ref f)) (B : Bi K mg) (C_row_word : Cl P w K mg base (L2N.CX P w) false "row_word" 1 ["row"] (sp_row_word K)) : Cl P w K mg base (L2N.CX P w) false "hall_line" 2 ["rows"] (sp_hall_line K) := by
  refine cl_of F gm sc_hall_line len_hall_line (fun _ _ _ _ _ _ us hl => match us, hl with | [_], _ => rfl) (fun cdv A outer s H vs Q E hr hg h => ⟨t_hall_line K, PSs.nox ?_, go_hall_line h⟩)
  have nd := sc_hall_line.nd
  have hu2 := hr.units
  have hu3 := hu65 hr
  exact (pss_one (ps_ret (pe_m1 PySem.F.slot_str_join PySem.F.type_str_join mt_joinP pe_str (pe_op op_addP (pe_lst (pa_cons (pe_cstS rfl (B.c_HALL)) pa_nil)) (pe_lc (own := [("row", 1)]) (g := gName 1) (tt := tYes) rfl nd (pi_any (pv 0)) (blkOk_by (own := [("row", 1)]) (N := N_hall_line) (sc := defScope s_hall_line) (by decide +kernel)) (fun _ _ _ _ _ => pg_name (i := 1) nd rfl (Or.inl rfl)) (fun _ _ _ _ _ => pts_nil) (fun _ _ _ _ _ => (pe_cl C_row_word (hr.mono (by decide)) (fun z => Bool.noConfusion z) passF rfl (pa_cons (pv 1) pa_nil))))))))
set_option maxRecDepth 100000 in
theorem ok_lines_of_book (F : FnP K "lines_of_book" "lines_of_book" s_lines_of_book f fd) (gm : mg "lines_of_book" = some (.ref f)) (B : Bi K mg) (C_hall_line : Cl P w K mg base (L2N.CX P w) false "hall_line" 2 ["rows"] (sp_hall_line K)) (C_head_line : Cl P w K mg base (L2N.CX P w) false "head_line" 1 ["book"] (sp_head_line K))(BC : BkC K) : Cl P w K mg base (L2N.CX P w) false "lines_of_book" 3 ["book"] (sp_lines_of_book K) := by
  refine cl_of F gm sc_lines_of_book len_lines_of_book (fun _ _ _ _ _ _ us hl => match us, hl with | [_], _ => rfl) (fun cdv A outer s H vs Q E hr hg h => ⟨t_lines_of_book K, PSs.nox ?_, go_lines_of_book BC h⟩)
  have nd := sc_lines_of_book.nd
  have hu2 := hr.units
  have hu3 := hu65 hr
  exact (pss_one (ps_ret (pe_op op_addP (pe_lst (pa_cons (pe_cl C_head_line (hr.mono (by decide)) (fun z => Bool.noConfusion z) passF rfl (pa_cons (pv 0) pa_nil)) pa_nil)) (pe_lc (own := [("rows", 1)]) (g := gName 1) (tt := tYes) rfl nd (pi_any (pe_fld (pv 0) rfl)) (blkOk_by (own := [("rows", 1)]) (N := N_lines_of_book) (sc := defScope s_lines_of_book) (by decide +kernel)) (fun _ _ _ _ _ => pg_name (i := 1) nd rfl (Or.inl rfl)) (fun _ _ _ _ _ => pts_nil) (fun _ _ _ _ _ => (pe_cl C_hall_line (hr.mono (by decide)) (fun z => Bool.noConfusion z) passF rfl (pa_cons (pv 1) pa_nil)))))))
set_option maxRecDepth 100000 in
theorem ok_head_read (F : FnP K "head_read" "head_read" s_head_read f fd) (gm : mg "head_read" = some (.ref f)) (B : Bi K mg) (C_any_number : Cl P w K mg base (L2N.CX P w) false "any_number" 5 ["word"] (sp_any_number K)) (C_is_prime : Cl P w K mg base (L2N.CX P w) false "is_prime" 3 ["value"] (sp_is_prime K)) (C_number_from_one : Cl P w K mg base (L2N.CX P w) false "number_from_one" 6 ["word"] (sp_number_from_one K)) : Cl P w K mg base (L2N.CX P w) false "head_read" 7 ["line"] (sp_head_read K) := by
  refine cl_of F gm sc_head_read len_head_read (fun _ _ _ _ _ _ us hl => match us, hl with | [_], _ => rfl) (fun cdv A outer s H vs Q E hr hg h => ⟨t_head_read K, PSs.nox ?_, go_head_read h⟩)
  have nd := sc_head_read.nd
  have hu2 := hr.units
  have hu3 := hu65 hr
  exact (pss_cons (ps_set (i := 1) nd rfl (Or.inl rfl) (pe_m1 PySem.F.slot_str_split PySem.F.type_str_split mt_splitP (pv 0) pe_str))
    (pss_cons (ps_if (PW.pt (pw_or (pt_cmpR (op_neP hu2) (pe_callB call_lenP rfl B.b_len (by decide +kernel) (pa_cons (pv 1) pa_nil)) pe_int (nomark _)) (pw_or1 (pt_cmpR (op_neP hu2) (pe_ix ix_seq (pv 1) pe_int (fun _ _ => rfl)) (pe_cstS rfl (B.c_BOOK)) (nomark _))))) (pss_one (ps_ret pe_non)) pss_nil)
    (pss_cons (ps_set (i := 2) nd rfl (Or.inl rfl) (pe_cl C_any_number (hr.mono (by decide)) (fun z => Bool.noConfusion z) passF rfl (pa_cons (pe_ix ix_seq (pv 1) pe_int (fun _ _ => rfl)) pa_nil)))
    (pss_cons (ps_set (i := 3) nd rfl (Or.inl rfl) (pe_cl C_number_from_one (hr.mono (by decide)) (fun z => Bool.noConfusion z) passF rfl (pa_cons (pe_ix ix_seq (pv 1) pe_int (fun _ _ => rfl)) pa_nil)))
    (pss_cons (ps_if (PW.pt (pw_or (pt_cmpR op_isN1 (pv 2) pe_non (nomark _)) (pw_or (pt_cmpR op_isN1 (pv 3) pe_non (nomark _)) (pw_or1 (pt_not (pt_truth (pe_cl C_is_prime (hr.mono (by decide)) (fun z => Bool.noConfusion z) passF rfl (pa_cons (pv 2) pa_nil)) (by intro _; rfl))))))) (pss_one (ps_ret pe_non)) pss_nil)
    (pss_one (ps_ret (pe_tup (pa_cons (pv 2) (pa_cons (pv 3) pa_nil))))))))))
set_option maxRecDepth 100000 in
theorem ok_row_read (F : FnP K "row_read" "row_read" s_row_read f fd) (gm : mg "row_read" = some (.ref f)) (B : Bi K mg) (C_numbers_below : Cl P w K mg base (L2N.CX P w) false "numbers_below" 7 ["words", "many", "limit"] (sp_numbers_below K)) : Cl P w K mg base (L2N.CX P w) false "row_read" 8 ["p", "k", "word"] (sp_row_read K) := by
  refine cl_of F gm sc_row_read len_row_read (fun _ _ _ _ _ _ us hl => match us, hl with | [_, _, _], _ => rfl) (fun cdv A outer s H vs Q E hr hg h => ⟨t_row_read K, PSs.nox ?_, go_row_read h⟩)
  have nd := sc_row_read.nd
  have hu2 := hr.units
  have hu3 := hu65 hr
  exact (pss_one (ps_ret (pe_cl C_numbers_below (hr.mono (by decide)) (fun z => Bool.noConfusion z) passF rfl (pa_cons (pe_m1 PySem.F.slot_str_split PySem.F.type_str_split mt_splitP (pv 2) pe_str) (pa_cons (pv 1) (pa_cons (pv 0) pa_nil))))))
set_option maxRecDepth 100000 in
theorem ok_rows_read (F : FnP K "rows_read" "rows_read" s_rows_read f fd) (gm : mg "rows_read" = some (.ref f)) (B : Bi K mg) (C_row_read : Cl P w K mg base (L2N.CX P w) false "row_read" 8 ["p", "k", "word"] (sp_row_read K)) : Cl P w K mg base (L2N.CX P w) false "rows_read" 9 ["p", "k", "line"] (sp_rows_read K) := by
  refine cl_of F gm sc_rows_read len_rows_read (fun _ _ _ _ _ _ us hl => match us, hl with | [_, _, _], _ => rfl) (fun cdv A outer s H vs Q E hr hg h => ⟨t_rows_read K, PSs.nox ?_, go_rows_read h⟩)
  have nd := sc_rows_read.nd
  have hu2 := hr.units
  have hu3 := hu65 hr
  exact (pss_cons (ps_set (i := 3) nd rfl (Or.inl rfl) (pe_m1 PySem.F.slot_str_split PySem.F.type_str_split mt_splitP (pv 2) pe_str))
    (pss_cons (ps_if (pt_cmpR (op_neP hu2) (pe_ix ix_seq (pv 3) pe_int (fun _ _ => rfl)) (pe_cstS rfl (B.c_HALL)) (nomark _)) (pss_one (ps_ret pe_non)) pss_nil)
    (pss_cons (ps_setLc (i := 4) (own := [("word", 5)]) (g := gName 5) (tt := tYes) rfl nd rfl rfl (sw_true rfl rfl rfl (by decide +kernel)) (pi_any (pe_slice sl_P (pv 3) (po_some pe_int) po_none)) (blkOk_by (own := [("word", 5)]) (N := N_rows_read) (sc := defScope s_rows_read) (by decide +kernel)) (fun _ _ _ _ _ => pg_name (i := 5) nd rfl (Or.inl rfl)) (fun _ _ _ _ _ => pts_nil) (fun _ _ _ _ _ => (pe_cl C_row_read (hr.mono (by decide)) (fun z => Bool.noConfusion z) passF rfl (pa_cons (pv 0) (pa_cons (pv 1) (pa_cons (pv 5) pa_nil))))))
    (pss_cons (ps_if (pt_cmpR (op_inD hu3) pe_non (pv 4) rfl) (pss_one (ps_ret pe_non)) pss_nil)
    (pss_one (ps_ret (pe_callTy call_tupP rfl B.b_tuple (by decide +kernel) (pa_cons (pv 4) pa_nil))))))))
set_option maxRecDepth 100000 in
theorem ok_halls_read (F : FnP K "halls_read" "halls_read" s_halls_read f fd) (gm : mg "halls_read" = some (.ref f)) (B : Bi K mg) (C_rows_read : Cl P w K mg base (L2N.CX P w) false "rows_read" 9 ["p", "k", "line"] (sp_rows_read K)) : Cl P w K mg base (L2N.CX P w) false "halls_read" 10 ["p", "k", "lines"] (sp_halls_read K) := by
  refine cl_of F gm sc_halls_read len_halls_read (fun _ _ _ _ _ _ us hl => match us, hl with | [_, _, _], _ => rfl) (fun cdv A outer s H vs Q E hr hg h => ⟨t_halls_read K, PSs.nox ?_, go_halls_read h⟩)
  have nd := sc_halls_read.nd
  have hu2 := hr.units
  have hu3 := hu65 hr
  exact (pss_cons (ps_set (i := 3) nd rfl (Or.inl rfl) (pe_lst pa_nil))
    (pss_cons (ps_for PassesOwn.never rfl (pi_any (pv 2)) (pg_name (i := 4) nd rfl (Or.inl rfl)) (pss_cons (ps_set (i := 5) nd rfl (Or.inl rfl) (pe_cl C_rows_read (hr.mono (by decide)) (fun z => Bool.noConfusion z) passF rfl (pa_cons (pv 0) (pa_cons (pv 1) (pa_cons (pv 4) pa_nil)))))
    (pss_cons (ps_if (pt_cmpR op_isN1 (pv 5) pe_non (nomark _)) (pss_one ps_break) pss_nil)
    (pss_one (ps_expr (pe_bm PySem.F.plainAttrs_list PySem.F.slot_list_append PySem.F.type_list_append mt_append (pv 3) (pa_cons (pv 5) pa_nil)))))))
    (pss_one (ps_ret (pe_callTy call_tupP rfl B.b_tuple (by decide +kernel) (pa_cons (pv 3) pa_nil))))))
set_option maxRecDepth 100000 in
theorem ok_book_ahead (F : FnP K "book_ahead" "book_ahead" s_book_ahead f fd) (gm : mg "book_ahead" = some (.ref f)) (B : Bi K mg) (C_Book___init : MakC P w K mg base (L2N.CX P w) 6 "Book" (He.ga K "Book") (sp_Book___init K)) (C_halls_read : Cl P w K mg base (L2N.CX P w) false "halls_read" 10 ["p", "k", "lines"] (sp_halls_read K)) (C_head_read : Cl P w K mg base (L2N.CX P w) false "head_read" 7 ["line"] (sp_head_read K)) (R : Rz P w K mg base "InvalidText" D ["self", "text", "at"] (spI2 D "text" "at")) : Cl P w K mg base (L2N.CX P w) false "book_ahead" 11 ["text", "lines"] (sp_book_aheadX K D) := by
  refine cl_of F gm sc_book_ahead len_book_aheadX (fun _ _ _ _ _ _ us hl => match us, hl with | [_, _], _ => rfl) (fun cdv A outer s H vs Q E hr hg h => ⟨t_book_aheadX K D E, ?_, go_book_aheadX h⟩)
  have tk := L2N.takes_of (X := cxOf (L2N.CX P w) P w K mg base N_book_ahead "book_ahead" (defScope s_book_ahead) f cdv A outer s H E) (E := E) rfl rfl rfl rfl
  have nd := sc_book_ahead.nd
  have hu2 := hr.units
  have hu3 := hu65 hr
  exact (pss_cons (ps_set (i := 2) nd rfl (Or.inl rfl) (pe_cl C_head_read (hr.mono (by decide)) (fun z => Bool.noConfusion z) passF rfl (pa_cons (pe_ix ix_seq (pv 1) pe_int (fun _ _ => rfl)) pa_nil)))
    (pss_cons (ps_if (pt_cmpR op_isN1 (pv 2) pe_non (nomark _)) (pss_one (ps_rz R (hr.mono (by decide)) rfl tk rfl (pa_cons (pv 0) (pa_cons pe_int pa_nil)))) pss_nil)
    (pss_cons (ps_asg (pv 2) (pg_tup rfl (pgs_cons (pg_name (i := 3) nd rfl (Or.inl rfl)) (pgs_cons (pg_name (i := 4) nd rfl (Or.inl rfl)) pgs_nil))))
    (pss_cons (ps_set (i := 5) nd rfl (Or.inl rfl) (pe_cl C_halls_read (hr.mono (by decide)) (fun z => Bool.noConfusion z) passF rfl (pa_cons (pv 3) (pa_cons (pv 4) (pa_cons (pe_slice sl_P (pv 1) (po_some pe_int) po_none) pa_nil)))))
    (pss_cons (ps_if (pt_not (pt_truth (pv 5) (by intro _; rfl))) (pss_one (ps_rz R (hr.mono (by decide)) rfl tk rfl (pa_cons (pv 0) (pa_cons pe_int pa_nil)))) pss_nil)
    (pss_one (ps_ret (pe_mkC C_Book___init (hr.mono (by decide)) rfl (pa_cons (pv 3) (pa_cons (pv 4) (pa_cons (pv 5) pa_nil)))))))))))
set_option maxRecDepth 100000 in
theorem ok_lines_used (F : FnP K "lines_used" "lines_used" s_lines_used f fd) (gm : mg "lines_used" = some (.ref f)) (B : Bi K mg) (BC : BkC K) : Cl P w K mg base (L2N.CX P w) false "lines_used" 1 ["book"] (sp_lines_used K) := by
  refine cl_of F gm sc_lines_used len_lines_used (fun _ _ _ _ _ _ us hl => match us, hl with | [_], _ => rfl) (fun cdv A outer s H vs Q E hr hg h => ⟨t_lines_used K, PSs.nox ?_, go_lines_used BC h⟩)
  have nd := sc_lines_used.nd
  have hu2 := hr.units
  have hu3 := hu65 hr
  exact (pss_one (ps_ret (pe_op op_addP pe_int (pe_callB call_lenP rfl B.b_len (by decide +kernel) (pa_cons (pe_fld (pv 0) rfl) pa_nil)))))
set_option maxRecDepth 100000 in
theorem ok_write_book (F : FnP K "write_book" "write_book" s_write_book f fd) (gm : mg "write_book" = some (.ref f)) (B : Bi K mg) (C_demand_book : Cl P w K mg base (L2N.CX P w) false "demand_book" 1 ["book"] (sp_demand_book K)) (C_lines_of_book : Cl P w K mg base (L2N.CX P w) false "lines_of_book" 3 ["book"] (sp_lines_of_book K))(BC : BkC K) : Cl P w K mg base (L2N.CX P w) false "write_book" 4 ["book"] (sp_write_book K) := by
  refine cl_of F gm sc_write_book len_write_book (fun _ _ _ _ _ _ us hl => match us, hl with | [_], _ => rfl) (fun cdv A outer s H vs Q E hr hg h => ⟨t_write_book K, PSs.nox ?_, go_write_book BC h⟩)
  have nd := sc_write_book.nd
  have hu2 := hr.units
  have hu3 := hu65 hr
  exact (pss_cons (ps_expr (pe_cl C_demand_book (hr.mono (by decide)) (fun z => Bool.noConfusion z) passF rfl (pa_cons (pv 0) pa_nil)))
    (pss_one (ps_ret (pe_m1 PySem.F.slot_str_join PySem.F.type_str_join mt_joinP pe_str (pe_cl C_lines_of_book (hr.mono (by decide)) (fun z => Bool.noConfusion z) passF rfl (pa_cons (pv 0) pa_nil))))))
set_option maxRecDepth 100000 in
theorem ok_read_book (F : FnP K "read_book" "read_book" s_read_book f fd) (gm : mg "read_book" = some (.ref f)) (B : Bi K mg) (C_book_ahead : Cl P w K mg base (L2N.CX P w) false "book_ahead" 11 ["text", "lines"] (sp_book_aheadX K D)) (C_lines_used : Cl P w K mg base (L2N.CX P w) false "lines_used" 1 ["book"] (sp_lines_used K)) (R : Rz P w K mg base "InvalidText" D ["self", "text", "at"] (spI2 D "text" "at"))(BC : BkC K) : Cl P w K mg base (L2N.CX P w) false "read_book" 12 ["text"] (sp_read_bookX K D) := by
  refine cl_of F gm sc_read_book len_read_bookX (fun _ _ _ _ _ _ us hl => match us, hl with | [_], _ => rfl) (fun cdv A outer s H vs Q E hr hg h => ⟨t_read_bookX K D E, ?_, go_read_bookX BC h⟩)
  have tk := L2N.takes_of (X := cxOf (L2N.CX P w) P w K mg base N_read_book "read_book" (defScope s_read_book) f cdv A outer s H E) (E := E) rfl rfl rfl rfl
  have nd := sc_read_book.nd
  have hu2 := hr.units
  have hu3 := hu65 hr
  exact (pss_cons (ps_set (i := 1) nd rfl (Or.inl rfl) (pe_m1 PySem.F.slot_str_split PySem.F.type_str_split mt_splitP (pv 0) pe_str))
    (pss_cons (ps_set (i := 2) nd rfl (Or.inl rfl) (pe_cl C_book_ahead (hr.mono (by decide)) (fun z => Bool.noConfusion z) (L2N.passes_call tk fun _ _ _ _ h => h) rfl (pa_cons (pv 0) (pa_cons (pv 1) pa_nil))))
    (pss_cons (ps_if (pt_cmpR op_lt (pe_cl C_lines_used (hr.mono (by decide)) (fun z => Bool.noConfusion z) passF rfl (pa_cons (pv 2) pa_nil)) (pe_callB call_lenP rfl B.b_len (by decide +kernel) (pa_cons (pv 1) pa_nil)) (nomark _)) (pss_one (ps_rz R (hr.mono (by decide)) rfl tk rfl (pa_cons (pv 0) (pa_cons (pe_cl C_lines_used (hr.mono (by decide)) (fun z => Bool.noConfusion z) passF rfl (pa_cons (pv 2) pa_nil)) pa_nil)))) pss_nil)
    (pss_one (ps_ret (pv 2))))))
set_option maxRecDepth 100000 in
theorem ok_law_box (F : FnP K "_law_box" "_law_box" s_law_box f fd) (gm : mg "_law_box" = some (.ref f)) (B : Bi K mg)  : Cl P w K mg base (L2N.CX P w) false "_law_box" 1 ["script"] (sp_law_box K) := by
  refine cl_of F gm sc_law_box len_law_box (fun _ _ _ _ _ _ us hl => match us, hl with | [_], _ => rfl) (fun cdv A outer s H vs Q E hr hg h => ⟨t_box K, PSs.nox ?_, go_law_box h⟩)
  have nd := sc_law_box.nd
  have hu2 := hr.units
  have hu3 := hu65 hr
  exact (pss_cons (ps_setLc (i := 1) (own := [("cell", 3)]) (g := gName 3) (tt := tYes) rfl nd rfl rfl (sw_true rfl rfl rfl (by decide +kernel)) (pi_any (pe_slice sl_P (pv 0) po_none (po_some pe_int))) (blkOk_by (own := [("cell", 3)]) (N := N_law_box) (sc := defScope s_law_box) (by decide +kernel)) (fun _ _ _ _ _ => pg_name (i := 3) nd rfl (Or.inl rfl)) (fun _ _ _ _ _ => pts_nil) (fun _ _ _ _ _ => (pe_callB call_absP rfl B.b_abs (by decide +kernel) (pa_cons (pe_callTy call_intP rfl B.b_int (by decide +kernel) (pa_cons (pv 3) pa_nil)) pa_nil))))
    (pss_cons (ps_setLc (i := 2) (own := [("cell", 3)]) (g := gName 3) (tt := (tTest (tOp rGeI (tVar 3) (tOp rPowI (tC (.int 10)) (tC (.int 18)))))) rfl nd rfl rfl (sw_true rfl rfl rfl (by decide +kernel)) (pi_any (pv 1)) (blkOk_by (own := [("cell", 3)]) (N := N_law_box) (sc := defScope s_law_box) (by decide +kernel)) (fun _ _ _ _ _ => pg_name (i := 3) nd rfl (Or.inl rfl)) (fun _ _ _ _ _ => (pts_one (pt_cmpR op_ge (pv 3) (pe_op op_pow pe_int pe_int) (nomark _)))) (fun _ _ _ _ _ => (pv 3)))
    (pss_one (ps_ret (pe_lst (pa_cons (pe_lstRev rfl rfl B.b_list rfl B.b_reversed (pv 2)) (pa_cons (pe_op op_addP (pe_lc (own := [("cell", 3)]) (g := gName 3) (tt := tYes) rfl nd (pi_any (pv 1)) (blkOk_by (own := [("cell", 3)]) (N := N_law_box) (sc := defScope s_law_box) (by decide +kernel)) (fun _ _ _ _ _ => pg_name (i := 3) nd rfl (Or.inl rfl)) (fun _ _ _ _ _ => pts_nil) (fun _ _ _ _ _ => (pe_op op_mod (pe_callTy call_intP rfl B.b_int (by decide +kernel) (pa_cons (pv 3) pa_nil)) pe_int))) (pe_lst (pa_cons pe_int pa_nil))) (pa_cons pe_int pa_nil))))))))
set_option maxRecDepth 100000 in
theorem ok_law_draw (F : FnP K "_law_draw" "_law_draw" s_law_draw f fd) (gm : mg "_law_draw" = some (.ref f)) (B : Bi K mg)  : Cl P w K mg base (L2N.CX P w) false "_law_draw" 1 ["box", "limit"] (sp_law_draw K) := by
  refine cl_of F gm sc_law_draw len_law_draw (fun _ _ _ _ _ _ us hl => match us, hl with | [_, _], _ => rfl) (fun cdv A outer s H vs Q E hr hg h => ⟨t_draw K, PSs.nox ?_, go_law_draw h⟩)
  have nd := sc_law_draw.nd
  have hu2 := hr.units
  have hu3 := hu65 hr
  exact (pss_cons (ps_set (i := 2) nd rfl (Or.inl rfl) (pe_ix ix_seq (pv 0) pe_int (fun _ _ => rfl)))
    (pss_cons (ps_asg (pe_op op_addP (pe_ix ix_seq (pv 0) pe_int (fun _ _ => rfl)) pe_int) (pg_sub (pv 0) pe_int set_list))
    (pss_cons (ps_while PassesOwn.never (PW.pt (pw_and (pt_cmpR op_gt (pe_callB call_lenP rfl B.b_len (by decide +kernel) (pa_cons (pv 2) pa_nil)) pe_int (nomark _)) (pw_and1 (pt_cmpR (op_eqP hu2) (pe_ix ix_seq (pv 2) (pe_un un_neg pe_int) (fun _ _ => rfl)) pe_int (nomark _))))) (pss_one (ps_expr (pe_bm0 PySem.F.plainAttrs_list PySem.F.slot_list_pop PySem.F.type_list_pop mt_pop (pv 2)))))
    (pss_cons (ps_if (pt_cmpR op_gt (pe_callB call_lenP rfl B.b_len (by decide +kernel) (pa_cons (pv 2) pa_nil)) pe_int (nomark _)) (pss_cons (ps_set (i := 5) nd rfl (Or.inl rfl) (pe_op op_mod (pe_callTy call_intP rfl B.b_int (by decide +kernel) (pa_cons (pe_ix ix_seq (pv 2) (pe_un un_neg pe_int) (fun _ _ => rfl)) pa_nil)) (pv 1)))
    (pss_cons (ps_asg (pe_op op_fdiv (pe_ix ix_seq (pv 2) (pe_un un_neg pe_int) (fun _ _ => rfl)) (pv 1)) (pg_sub (pv 2) (pe_un un_neg pe_int) set_list))
    (pss_one (ps_ret (pv 5))))) pss_nil)
    (pss_cons (ps_set (i := 3) nd rfl (Or.inl rfl) (pe_ix ix_seq (pe_ix ix_seq (pv 0) pe_int (fun _ _ => rfl)) (pe_op op_mod (pe_callTy call_intP rfl B.b_int (by decide +kernel) (pa_cons (pe_ix ix_seq (pv 0) pe_int (fun _ _ => rfl)) pa_nil)) (pe_callB call_lenP rfl B.b_len (by decide +kernel) (pa_cons (pe_ix ix_seq (pv 0) pe_int (fun _ _ => rfl)) pa_nil))) (fun _ _ => rfl)))
    (pss_cons (ps_set (i := 4) nd rfl (Or.inl rfl) (pe_op op_mod (pe_callTy call_intP rfl B.b_int (by decide +kernel) (pa_cons (pe_op op_addP (pe_op op_addP (pe_op op_mulP (pv 3) pe_int) (pe_op op_mulP (pe_ix ix_seq (pv 0) pe_int (fun _ _ => rfl)) pe_int)) pe_int) pa_nil)) pe_int))
    (pss_cons (ps_set (i := 4) nd rfl (Or.inl rfl) (pe_op op_mod (pe_callTy call_intP rfl B.b_int (by decide +kernel) (pa_cons (pe_op op_addP (pe_op op_addP (pe_op op_mulP (pv 4) (pv 4)) (pe_op op_mulP (pe_ix ix_seq (pv 0) pe_int (fun _ _ => rfl)) pe_int)) (pe_op op_fdiv (pv 3) pe_int)) pa_nil)) pe_int))
    (pss_cons (ps_set (i := 4) nd rfl (Or.inl rfl) (pe_op op_mod (pe_callTy call_intP rfl B.b_int (by decide +kernel) (pa_cons (pe_op op_addP (pe_op op_addP (pe_op op_mulP (pe_op op_mulP (pv 4) (pv 4)) pe_int) (pv 3)) pe_int) pa_nil)) pe_int))
    (pss_one (ps_ret (pe_op op_mod (pe_callTy call_intP rfl B.b_int (by decide +kernel) (pa_cons (pe_op op_fdiv (pv 4) pe_int) pa_nil)) (pv 1))))))))))))
set_option maxRecDepth 100000 in
theorem ok_law_same (F : FnP K "_law_same" "_law_same" s_law_same f fd) (gm : mg "_law_same" = some (.ref f)) (B : Bi K mg)  : Cl P w K mg base (L2N.CX P w) true "_law_same" 1 ["due", "got"] (sp_law_same K) := by
  refine cl_of F gm sc_law_same len_law_same (fun _ _ _ _ _ _ us hl => match us, hl with | [_, _], _ => rfl) (fun cdv A outer s H vs Q E hr hg h => ⟨t_same K, PSs.nox ?_, go_law_same h⟩)
  have nd := sc_law_same.nd
  have hu2 := hr.units
  have hg := hg rfl
  have hu := hu70 hr
  exact (pss_one (ps_ret (pe_and (pe_cmpR (op_eqP hu2) (pv 0) (pv 1) (nomark _)) (pe_one (pe_cmpR (op_eqP hu2) (pe_callB (call_reprD hu hg) rfl B.b_repr (by decide +kernel) (pa_cons (pv 0) pa_nil)) (pe_callB (call_reprD hu hg) rfl B.b_repr (by decide +kernel) (pa_cons (pv 1) pa_nil)) (nomark _))))))
set_option maxRecDepth 100000 in
theorem ok_law_number (F : FnP K "_law_number" "_law_number" s_law_number f fd) (gm : mg "_law_number" = some (.ref f)) (B : Bi K mg)  : Cl P w K mg base (L2N.CX P w) false "_law_number" 1 ["word"] (sp_law_number K) := by
  refine cl_of F gm sc_law_number len_law_number (fun _ _ _ _ _ _ us hl => match us, hl with | [_], _ => rfl) (fun cdv A outer s H vs Q E hr hg h => ⟨t_law_number K, PSs.nox ?_, go_law_number h⟩)
  have nd := sc_law_number.nd
  have hu2 := hr.units
  have hu3 := hu65 hr
  exact (pss_cons (ps_if (PW.pt (pw_or (pt_cmpR (op_eqP hu2) (pv 0) pe_str (nomark _)) (pw_or1 (pt_cmpR op_gt (pe_callB call_lenP rfl B.b_len (by decide +kernel) (pa_cons (pe_lc (own := [("sign", 1)]) (g := gName 1) (tt := (tTest (tOp rNotInS (tVar 1) (tC (.str "0123456789"))))) rfl nd (pi_any (pv 0)) (blkOk_by (own := [("sign", 1)]) (N := N_law_number) (sc := defScope s_law_number) (by decide +kernel)) (fun _ _ _ _ _ => pg_name (i := 1) nd rfl (Or.inl rfl)) (fun _ _ _ _ _ => (pts_one (pt_cmpR op_notInS (pv 1) pe_str rfl))) (fun _ _ _ _ _ => (pv 1))) pa_nil)) pe_int (nomark _))))) (pss_one (ps_ret (pe_un un_neg pe_int))) pss_nil)
    (pss_cons (ps_if (PW.pt (pw_and (pt_cmpR op_gt (pe_callB call_lenP rfl B.b_len (by decide +kernel) (pa_cons (pv 0) pa_nil)) pe_int (nomark _)) (pw_and1 (pt_cmpR (op_eqP hu2) (pe_ix ix_seq (pv 0) pe_int (fun _ _ => rfl)) pe_str (nomark _))))) (pss_one (ps_ret (pe_un un_neg pe_int))) pss_nil)
    (pss_one (ps_ret (pe_callTy call_intP rfl B.b_int (by decide +kernel) (pa_cons (pv 0) pa_nil))))))
set_option maxRecDepth 100000 in
theorem ok_law_prime (F : FnP K "_law_prime" "_law_prime" s_law_prime f fd) (gm : mg "_law_prime" = some (.ref f)) (B : Bi K mg)  : Cl P w K mg base (L2N.CX P w) false "_law_prime" 1 ["number"] (sp_law_prime K) := by
  refine cl_of F gm sc_law_prime len_law_prime (fun _ _ _ _ _ _ us hl => match us, hl with | [_], _ => rfl) (fun cdv A outer s H vs Q E hr hg h => ⟨t_law_prime K, PSs.nox ?_, go_law_prime h⟩)
  have nd := sc_law_prime.nd
  have hu2 := hr.units
  have hu3 := hu65 hr
  exact (pss_one (ps_ret (pe_and (pe_cmpR op_gt (pv 0) pe_int (nomark _)) (pe_one (pe_cmpR (op_eqP hu2) (pe_callB call_lenP rfl B.b_len (by decide +kernel) (pa_cons (pe_lc (own := [("x", 1)]) (g := gName 1) (tt := (tAnd (tTest (tOp rLeI (tOp (rMulP K) (tVar 1) (tVar 1)) (tVar 0))) (tTest (tOp (rEqP K) (tOp rModI (tCB (rIntP) (tCons (tVar 0) tNil)) (tVar 1)) (tC (.int 0)))))) rfl nd (pi_range2 rfl B.b_range (pa_cons pe_int (pa_cons (pv 0) pa_nil))) (blkOk_by (own := [("x", 1)]) (N := N_law_prime) (sc := defScope s_law_prime) (by decide +kernel)) (fun _ _ _ _ _ => pg_name (i := 1) nd rfl (Or.inl rfl)) (fun _ _ _ _ _ => (pts_one (PW.pt (pw_and (pt_cmpR op_le (pe_op op_mulP (pv 1) (pv 1)) (pv 0) (nomark _)) (pw_and1 (pt_cmpR (op_eqP hu2) (pe_op op_mod (pe_callTy call_intP rfl B.b_int (by decide +kernel) (pa_cons (pv 0) pa_nil)) (pv 1)) pe_int (nomark _))))))) (fun _ _ _ _ _ => (pv 1))) pa_nil)) pe_int (nomark _))))))
set_option maxRecDepth 100000 in
theorem ok_law_read_row (F : FnP K "_law_read_row" "_law_read_row" s_law_read_row f fd) (gm : mg "_law_read_row" = some (.ref f)) (B : Bi K mg) (C_law_number : Cl P w K mg base (L2N.CX P w) false "_law_number" 1 ["word"] (sp_law_number K)) : Cl P w K mg base (L2N.CX P w) false "_law_read_row" 2 ["p", "k", "word"] (sp_law_read_row K) := by
  refine cl_of F gm sc_law_read_row len_law_read_row (fun _ _ _ _ _ _ us hl => match us, hl with | [_, _, _], _ => rfl) (fun cdv A outer s H vs Q E hr hg h => ⟨t_law_read_row K, PSs.nox ?_, go_law_read_row h⟩)
  have nd := sc_law_read_row.nd
  have hu2 := hr.units
  have hu3 := hu65 hr
  exact (pss_cons (ps_setLc (i := 3) (own := [("one", 4)]) (g := gName 4) (tt := tYes) rfl nd rfl rfl (sw_true rfl rfl rfl (by decide +kernel)) (pi_any (pe_m1 PySem.F.slot_str_split PySem.F.type_str_split mt_splitP (pv 2) pe_str)) (blkOk_by (own := [("one", 4)]) (N := N_law_read_row) (sc := defScope s_law_read_row) (by decide +kernel)) (fun _ _ _ _ _ => pg_name (i := 4) nd rfl (Or.inl rfl)) (fun _ _ _ _ _ => pts_nil) (fun _ _ _ _ _ => (pe_cl C_law_number (hr.mono (by decide)) (fun z => Bool.noConfusion z) passF rfl (pa_cons (pv 4) pa_nil))))
    (pss_cons (ps_if (PW.pt (pw_or (pt_cmpR (op_neP hu2) (pe_callB call_lenP rfl B.b_len (by decide +kernel) (pa_cons (pv 3) pa_nil)) (pv 1) (nomark _)) (pw_or (pt_cmpR op_lt (pe_callB (call_minL rfl) rfl B.b_min (by decide +kernel) (pa_cons (pv 3) pa_nil)) pe_int (nomark _)) (pw_or1 (pt_cmpR op_ge (pe_callB (call_maxL rfl) rfl B.b_max (by decide +kernel) (pa_cons (pv 3) pa_nil)) (pv 0) (nomark _)))))) (pss_one (ps_ret (pe_lst pa_nil))) pss_nil)
    (pss_one (ps_ret (pe_lst (pa_cons (pe_callTy call_tupP rfl B.b_tuple (by decide +kernel) (pa_cons (pv 3) pa_nil)) pa_nil))))))
set_option maxRecDepth 100000 in
theorem ok_law_read (F : FnP K "_law_read" "_law_read" s_law_read f fd) (gm : mg "_law_read" = some (.ref f)) (B : Bi K mg) (C_law_number : Cl P w K mg base (L2N.CX P w) false "_law_number" 1 ["word"] (sp_law_number K)) (C_law_prime : Cl P w K mg base (L2N.CX P w) false "_law_prime" 1 ["number"] (sp_law_prime K)) (C_law_read_row : Cl P w K mg base (L2N.CX P w) false "_law_read_row" 2 ["p", "k", "word"] (sp_law_read_row K)) : Cl P w K mg base (L2N.CX P w) false "_law_read" 3 ["text"] (sp_law_read K) := by
  refine cl_of F gm sc_law_read len_law_read (fun _ _ _ _ _ _ us hl => match us, hl with | [_], _ => rfl) (fun cdv A outer s H vs Q E hr hg h => ⟨t_law_read K, PSs.nox ?_, go_law_read h⟩)
  have nd := sc_law_read.nd
  have hu2 := hr.units
  have hu3 := hu65 hr
  exact (pss_cons (ps_set (i := 1) nd rfl (Or.inl rfl) (pe_m1 PySem.F.slot_str_split PySem.F.type_str_split mt_splitP (pv 0) pe_str))
    (pss_cons (ps_set (i := 2) nd rfl (Or.inl rfl) (pe_m1 PySem.F.slot_str_split PySem.F.type_str_split mt_splitP (pe_ix ix_seq (pv 1) pe_int (fun _ _ => rfl)) pe_str))
    (pss_cons (ps_if (PW.pt (pw_or (pt_cmpR (op_neP hu2) (pe_callB call_lenP rfl B.b_len (by decide +kernel) (pa_cons (pv 2) pa_nil)) pe_int (nomark _)) (pw_or1 (pt_cmpR (op_neP hu2) (pe_ix ix_seq (pv 2) pe_int (fun _ _ => rfl)) pe_str (nomark _))))) (pss_one (ps_ret (pe_lst (pa_cons pe_int pa_nil)))) pss_nil)
    (pss_cons (ps_set (i := 3) nd rfl (Or.inl rfl) (pe_cl C_law_number (hr.mono (by decide)) (fun z => Bool.noConfusion z) passF rfl (pa_cons (pe_ix ix_seq (pv 2) pe_int (fun _ _ => rfl)) pa_nil)))
    (pss_cons (ps_set (i := 4) nd rfl (Or.inl rfl) (pe_cl C_law_number (hr.mono (by decide)) (fun z => Bool.noConfusion z) passF rfl (pa_cons (pe_ix ix_seq (pv 2) pe_int (fun _ _ => rfl)) pa_nil)))
    (pss_cons (ps_if (PW.pt (pw_or (pt_cmpR op_lt (pv 4) pe_int (nomark _)) (pw_or (pt_cmpR op_gt (pv 3) pe_int (nomark _)) (pw_or1 (pt_not (pt_truth (pe_cl C_law_prime (hr.mono (by decide)) (fun z => Bool.noConfusion z) passF rfl (pa_cons (pv 3) pa_nil)) (by intro _; rfl))))))) (pss_one (ps_ret (pe_lst (pa_cons pe_int pa_nil)))) pss_nil)
    (pss_cons (ps_set (i := 5) nd rfl (Or.inl rfl) (pe_lst pa_nil))
    (pss_cons (ps_for PassesOwn.never rfl (pi_range2 rfl B.b_range (pa_cons pe_int (pa_cons (pe_callB call_lenP rfl B.b_len (by decide +kernel) (pa_cons (pv 1) pa_nil)) pa_nil))) (pg_name (i := 6) nd rfl (Or.inl rfl)) (pss_cons (ps_set (i := 2) nd rfl (Or.inl rfl) (pe_m1 PySem.F.slot_str_split PySem.F.type_str_split mt_splitP (pe_ix ix_seq (pv 1) (pv 6) (fun _ _ => rfl)) pe_str))
    (pss_cons (ps_if (pt_cmpR (op_neP hu2) (pe_ix ix_seq (pv 2) pe_int (fun _ _ => rfl)) pe_str (nomark _)) (pss_one (ps_ret (pe_lst (pa_cons (pv 6) pa_nil)))) pss_nil)
    (pss_cons (ps_set (i := 7) nd rfl (Or.inl rfl) (pe_lst pa_nil))
    (pss_cons (ps_for PassesOwn.never rfl (pi_any (pe_slice sl_P (pv 2) (po_some pe_int) po_none)) (pg_name (i := 8) nd rfl (Or.inl rfl)) (pss_cons (ps_set (i := 9) nd rfl (Or.inl rfl) (pe_cl C_law_read_row (hr.mono (by decide)) (fun z => Bool.noConfusion z) passF rfl (pa_cons (pv 3) (pa_cons (pv 4) (pa_cons (pv 8) pa_nil)))))
    (pss_cons (ps_if (pt_cmpR (op_eqP hu2) (pv 9) (pe_lst pa_nil) (nomark _)) (pss_one (ps_ret (pe_lst (pa_cons (pv 6) pa_nil)))) pss_nil)
    (pss_one (ps_expr (pe_bm PySem.F.plainAttrs_list PySem.F.slot_list_append PySem.F.type_list_append mt_append (pv 7) (pa_cons (pe_ix ix_seq (pv 9) pe_int (fun _ _ => rfl)) pa_nil)))))))
    (pss_one (ps_expr (pe_bm PySem.F.plainAttrs_list PySem.F.slot_list_append PySem.F.type_list_append mt_append (pv 5) (pa_cons (pe_callTy call_tupP rfl B.b_tuple (by decide +kernel) (pa_cons (pv 7) pa_nil)) pa_nil)))))))))
    (pss_cons (ps_if (pt_cmpR (op_eqP hu2) (pe_callB call_lenP rfl B.b_len (by decide +kernel) (pa_cons (pv 5) pa_nil)) pe_int (nomark _)) (pss_one (ps_ret (pe_lst (pa_cons pe_int pa_nil)))) pss_nil)
    (pss_one (ps_ret (pe_lst (pa_cons (pv 3) (pa_cons (pv 4) (pa_cons (pe_callTy call_tupP rfl B.b_tuple (by decide +kernel) (pa_cons (pv 5) pa_nil)) pa_nil)))))))))))))))
set_option maxRecDepth 100000 in
theorem ok_law_row_text (F : FnP K "_law_row_text" "_law_row_text" s_law_row_text f fd) (gm : mg "_law_row_text" = some (.ref f)) (B : Bi K mg) (C_law_draw : Cl P w K mg base (L2N.CX P w) false "_law_draw" 1 ["box", "limit"] (sp_law_draw K)) : Cl P w K mg base (L2N.CX P w) false "_law_row_text" 2 ["box", "p", "k"] (sp_law_row_text K) := by
  refine cl_of F gm sc_law_row_text len_law_row_text (fun _ _ _ _ _ _ us hl => match us, hl with | [_, _, _], _ => rfl) (fun cdv A outer s H vs Q E hr hg h => ⟨t_law_row_text K, PSs.nox ?_, go_law_row_text h⟩)
  have nd := sc_law_row_text.nd
  have hu2 := hr.units
  have hu3 := hu65 hr
  exact (pss_one (ps_ret (pe_m1 PySem.F.slot_str_join PySem.F.type_str_join mt_joinP pe_str (pe_lc (own := [("j", 3)]) (g := gName 3) (tt := tYes) rfl nd (pi_range1 rfl B.b_range (pa_cons (pv 2) pa_nil)) (blkOk_by (own := [("j", 3)]) (N := N_law_row_text) (sc := defScope s_law_row_text) (by decide +kernel)) (fun _ _ _ _ _ => pg_name (i := 3) nd rfl (Or.inl rfl)) (fun _ _ _ _ _ => pts_nil) (fun _ _ _ _ _ => (pe_callTy call_strP rfl B.b_str (by decide +kernel) (pa_cons (pe_cl C_law_draw (hr.mono (by decide)) (fun z => Bool.noConfusion z) passF rfl (pa_cons (pv 0) (pa_cons (pv 1) pa_nil))) pa_nil)))))))
set_option maxRecDepth 100000 in
theorem ok_law_head_bent (F : FnP K "_law_head_bent" "_law_head_bent" s_law_head_bent f fd) (gm : mg "_law_head_bent" = some (.ref f)) (B : Bi K mg) (C_law_draw : Cl P w K mg base (L2N.CX P w) false "_law_draw" 1 ["box", "limit"] (sp_law_draw K)) : Cl P w K mg base (L2N.CX P w) false "_law_head_bent" 2 ["box", "p", "k"] (sp_law_head_bent K) := by
  refine cl_of F gm sc_law_head_bent len_law_head_bent (fun _ _ _ _ _ _ us hl => match us, hl with | [_, _, _], _ => rfl) (fun cdv A outer s H vs Q E hr hg h => ⟨t_law_head_bent K, PSs.nox ?_, go_law_head_bent h⟩)
  have nd := sc_law_head_bent.nd
  have hu2 := hr.units
  have hu3 := hu65 hr
  exact (pss_cons (ps_set (i := 3) nd rfl (Or.inl rfl) (pe_callTy call_strP rfl B.b_str (by decide +kernel) (pa_cons (pv 1) pa_nil)))
    (pss_cons (ps_set (i := 4) nd rfl (Or.inl rfl) (pe_callTy call_strP rfl B.b_str (by decide +kernel) (pa_cons (pv 2) pa_nil)))
    (pss_cons (ps_set (i := 5) nd rfl (Or.inl rfl) (pe_lst (pa_cons (pe_op op_addP pe_str (pv 4)) (pa_cons (pe_op op_addP pe_str (pv 4)) (pa_cons (pe_op op_addP pe_str (pv 4)) (pa_cons (pe_op op_addP pe_str (pv 4)) (pa_cons (pe_op op_addP pe_str (pv 4)) (pa_cons (pe_op op_addP (pe_op op_addP pe_str (pv 3)) pe_str) (pa_cons (pe_op op_addP (pe_op op_addP (pe_op op_addP pe_str (pv 3)) pe_str) (pv 4)) (pa_cons (pe_op op_addP (pe_op op_addP (pe_op op_addP pe_str (pv 3)) pe_str) (pv 4)) (pa_cons (pe_op op_addP (pe_op op_addP (pe_op op_addP pe_str (pv 3)) pe_str) (pv 4)) (pa_cons (pe_op op_addP pe_str (pv 3)) (pa_cons (pe_op op_addP (pe_op op_addP (pe_op op_addP (pe_op op_addP pe_str (pv 3)) pe_str) (pv 4)) pe_str) (pa_cons (pe_op op_addP (pe_op op_addP (pe_op op_addP pe_str (pv 3)) pe_str) (pv 4)) (pa_cons (pe_op op_addP (pe_op op_addP (pe_op op_addP pe_str (pv 3)) pe_str) (pv 4)) (pa_cons pe_str (pa_cons pe_str (pa_cons (pe_op op_addP (pe_op op_addP (pe_op op_addP (pe_op op_addP pe_str (pv 3)) pe_str) (pv 4)) pe_str) (pa_cons (pe_op op_addP (pe_op op_addP (pe_op op_addP pe_str (pv 3)) pe_str) (pv 4)) (pa_cons (pe_op op_addP (pe_op op_addP (pe_op op_addP pe_str (pv 3)) pe_str) (pv 4)) (pa_cons (pe_op op_addP pe_str (pv 4)) (pa_cons (pe_op op_addP pe_str (pv 4)) (pa_cons (pe_op op_addP (pe_op op_addP pe_str (pv 3)) pe_str) (pa_cons (pe_op op_addP (pe_op op_addP (pe_op op_addP pe_str (pv 3)) pe_str) (pv 4)) (pa_cons (pe_op op_addP (pe_op op_addP (pe_op op_addP pe_str (pv 3)) pe_str) (pv 4)) (pa_cons pe_str pa_nil))))))))))))))))))))))))))
    (pss_one (ps_ret (pe_ix ix_seq (pv 5) (pe_cl C_law_draw (hr.mono (by decide)) (fun z => Bool.noConfusion z) passF rfl (pa_cons (pv 0) (pa_cons (pe_callB call_lenP rfl B.b_len (by decide +kernel) (pa_cons (pv 5) pa_nil)) pa_nil))) (fun _ _ => rfl)))))))
set_option maxRecDepth 100000 in
theorem ok_law_hall_bent (F : FnP K "_law_hall_bent" "_law_hall_bent" s_law_hall_bent f fd) (gm : mg "_law_hall_bent" = some (.ref f)) (B : Bi K mg) (C_law_draw : Cl P w K mg base (L2N.CX P w) false "_law_draw" 1 ["box", "limit"] (sp_law_draw K)) (C_law_row_text : Cl P w K mg base (L2N.CX P w) false "_law_row_text" 2 ["box", "p", "k"] (sp_law_row_text K)) : Cl P w K mg base (L2N.CX P w) false "_law_hall_bent" 3 ["box", "p", "k", "line"] (sp_law_hall_bent K) := by
  refine cl_of F gm sc_law_hall_bent len_law_hall_bent (fun _ _ _ _ _ _ us hl => match us, hl with | [_, _, _, _], _ => rfl) (fun cdv A outer s H vs Q E hr hg h => ⟨t_law_hall_bent K, PSs.nox ?_, go_law_hall_bent h⟩)
  have nd := sc_law_hall_bent.nd
  have hu2 := hr.units
  have hu3 := hu65 hr
  exact (pss_cons (ps_set (i := 4) nd rfl (Or.inl rfl) (pe_cl C_law_row_text (hr.mono (by decide)) (fun z => Bool.noConfusion z) passF rfl (pa_cons (pv 0) (pa_cons (pv 1) (pa_cons (pv 2) pa_nil)))))
    (pss_cons (ps_set (i := 5) nd rfl (Or.inl rfl) (pe_lst (pa_cons (pe_op op_addP (pv 3) pe_str) (pa_cons (pe_op op_addP (pe_op op_addP (pe_op op_addP (pv 3) pe_str) (pv 4)) pe_str) (pa_cons (pe_op op_addP (pe_op op_addP (pv 3) pe_str) (pe_slice sl_P (pv 4) po_none (po_some (pe_un un_neg pe_int)))) (pa_cons (pe_op op_addP (pe_op op_addP (pe_op op_addP (pv 3) pe_str) (pe_callTy call_strP rfl B.b_str (by decide +kernel) (pa_cons (pv 1) pa_nil))) (pe_slice sl_P (pv 4) (po_some pe_int) po_none)) (pa_cons (pe_op op_addP pe_str (pv 3)) (pa_cons (pe_op op_addP (pe_op op_addP (pv 3) pe_str) (pv 4)) (pa_cons (pe_op op_addP (pe_op op_addP (pv 3) pe_str) (pv 4)) (pa_cons (pe_op op_addP (pe_op op_addP (pv 3) pe_str) (pv 4)) (pa_cons (pe_op op_addP pe_str (pe_slice sl_P (pv 3) (po_some pe_int) po_none)) (pa_cons (pe_op op_addP pe_str (pe_slice sl_P (pv 3) (po_some pe_int) po_none)) (pa_cons (pe_slice sl_P (pv 3) po_none (po_some pe_int)) (pa_cons pe_str (pa_cons (pe_op op_addP (pe_op op_addP (pe_op op_addP (pv 3) pe_str) (pv 4)) pe_str) (pa_cons (pe_op op_addP (pe_op op_addP (pv 3) pe_str) (pv 4)) (pa_cons (pe_catT (pv 3) (CwR.pet_replC (pv 4))) (pa_cons (pe_op op_addP pe_str (pv 4)) (pa_cons (pe_op op_addP (pe_op op_addP (pv 3) pe_str) (pv 4)) (pa_cons (pe_op op_addP (pe_op op_addP (pe_op op_addP pe_str (pe_callTy call_strP rfl B.b_str (by decide +kernel) (pa_cons (pv 1) pa_nil))) pe_str) (pe_callTy call_strP rfl B.b_str (by decide +kernel) (pa_cons (pv 2) pa_nil))) (pa_cons (pe_op op_addP pe_str (pv 4)) (pa_cons pe_str (pa_cons (pe_op op_addP (pv 3) pe_str) (pa_cons (pe_op op_addP (pv 3) pe_str) pa_nil))))))))))))))))))))))))
    (pss_one (ps_ret (pe_ix ix_seq (pv 5) (pe_cl C_law_draw (hr.mono (by decide)) (fun z => Bool.noConfusion z) passF rfl (pa_cons (pv 0) (pa_cons (pe_callB call_lenP rfl B.b_len (by decide +kernel) (pa_cons (pv 5) pa_nil)) pa_nil))) (fun _ _ => rfl))))))
set_option maxRecDepth 100000 in
theorem ok_law_bent (F : FnP K "_law_bent" "_law_bent" s_law_bent f fd) (gm : mg "_law_bent" = some (.ref f)) (B : Bi K mg) (C_law_draw : Cl P w K mg base (L2N.CX P w) false "_law_draw" 1 ["box", "limit"] (sp_law_draw K)) (C_law_hall_bent : Cl P w K mg base (L2N.CX P w) false "_law_hall_bent" 3 ["box", "p", "k", "line"] (sp_law_hall_bent K)) (C_law_head_bent : Cl P w K mg base (L2N.CX P w) false "_law_head_bent" 2 ["box", "p", "k"] (sp_law_head_bent K)) (C_law_row_text : Cl P w K mg base (L2N.CX P w) false "_law_row_text" 2 ["box", "p", "k"] (sp_law_row_text K)) : Cl P w K mg base (L2N.CX P w) false "_law_bent" 4 ["box", "p", "k", "lines"] (sp_law_bent K) := by
  refine cl_of F gm sc_law_bent len_law_bent (fun _ _ _ _ _ _ us hl => match us, hl with | [_, _, _, _], _ => rfl) (fun cdv A outer s H vs Q E hr hg h => ⟨t_law_bent K, PSs.nox ?_, go_law_bent h⟩)
  have nd := sc_law_bent.nd
  have hu2 := hr.units
  have hu3 := hu65 hr
  exact (pss_cons (ps_set (i := 4) nd rfl (Or.inl rfl) (pe_callTy call_lstP rfl B.b_list (by decide +kernel) (pa_cons (pv 3) pa_nil)))
    (pss_cons (ps_for PassesOwn.never rfl (pi_range1 rfl B.b_range (pa_cons (pe_op op_addP pe_int (pe_cl C_law_draw (hr.mono (by decide)) (fun z => Bool.noConfusion z) passF rfl (pa_cons (pv 0) (pa_cons pe_int pa_nil)))) pa_nil)) (pg_name (i := 5) nd rfl (Or.inl rfl)) (pss_cons (ps_set (i := 6) nd rfl (Or.inl rfl) (pe_cl C_law_draw (hr.mono (by decide)) (fun z => Bool.noConfusion z) passF rfl (pa_cons (pv 0) (pa_cons pe_int pa_nil))))
    (pss_cons (ps_set (i := 7) nd rfl (Or.inl rfl) (pe_cl C_law_draw (hr.mono (by decide)) (fun z => Bool.noConfusion z) passF rfl (pa_cons (pv 0) (pa_cons (pe_callB call_lenP rfl B.b_len (by decide +kernel) (pa_cons (pv 4) pa_nil)) pa_nil))))
    (pss_one (ps_if (pt_cmpR op_lt (pv 6) pe_int (nomark _)) (pss_one (ps_asg (pe_cl C_law_head_bent (hr.mono (by decide)) (fun z => Bool.noConfusion z) passF rfl (pa_cons (pv 0) (pa_cons (pv 1) (pa_cons (pv 2) pa_nil)))) (pg_sub (pv 4) pe_int set_list))) (pss_one (ps_if (pt_cmpR op_lt (pv 6) pe_int (nomark _)) (pss_one (ps_asg (pe_cl C_law_hall_bent (hr.mono (by decide)) (fun z => Bool.noConfusion z) passF rfl (pa_cons (pv 0) (pa_cons (pv 1) (pa_cons (pv 2) (pa_cons (pe_op op_addP pe_str (pe_cl C_law_row_text (hr.mono (by decide)) (fun z => Bool.noConfusion z) passF rfl (pa_cons (pv 0) (pa_cons (pv 1) (pa_cons (pv 2) pa_nil))))) pa_nil))))) (pg_sub (pv 4) (pv 7) set_list))) (pss_one (ps_if (pt_cmpR (op_eqP hu2) (pv 6) pe_int (nomark _)) (pss_one (ps_set (i := 4) nd rfl (Or.inl rfl) (pe_op op_addP (pv 4) (pe_lst (pa_cons (pe_ix ix_seq (pv 4) (pv 7) (fun _ _ => rfl)) pa_nil))))) (pss_one (ps_if (PW.pt (pw_and (pt_cmpR (op_eqP hu2) (pv 6) pe_int (nomark _)) (pw_and1 (pt_cmpR op_gt (pe_callB call_lenP rfl B.b_len (by decide +kernel) (pa_cons (pv 4) pa_nil)) pe_int (nomark _))))) (pss_one (ps_set (i := 4) nd rfl (Or.inl rfl) (pe_op op_addP (pe_slice sl_P (pv 4) po_none (po_some (pv 7))) (pe_slice sl_P (pv 4) (po_some (pe_op op_addP (pv 7) pe_int)) po_none)))) (pss_one (ps_if (pt_cmpR (op_eqP hu2) (pv 6) pe_int (nomark _)) (pss_one (ps_set (i := 4) nd rfl (Or.inl rfl) (pe_op op_addP (pv 4) (pe_lst (pa_cons pe_str pa_nil))))) (pss_one (ps_if (pt_cmpR (op_eqP hu2) (pv 6) pe_int (nomark _)) (pss_one (ps_set (i := 4) nd rfl (Or.inl rfl) (pe_op op_addP (pe_op op_addP (pe_slice sl_P (pv 4) po_none (po_some (pv 7))) (pe_lst (pa_cons pe_str pa_nil))) (pe_slice sl_P (pv 4) (po_some (pv 7)) po_none)))) (pss_cons (ps_set (i := 8) nd rfl (Or.inl rfl) (pe_ix ix_seq (pv 4) pe_int (fun _ _ => rfl)))
    (pss_cons (ps_asg (pe_ix ix_seq (pv 4) (pv 7) (fun _ _ => rfl)) (pg_sub (pv 4) pe_int set_list))
    (pss_one (ps_asg (pv 8) (pg_sub (pv 4) (pv 7) set_list))))))))))))))))))))
    (pss_one (ps_ret (pv 4)))))
set_option maxRecDepth 100000 in
theorem ok_law_all (F : FnP K "_law_all" "_law_all" s_law_all f fd) (gm : mg "_law_all" = some (.ref f)) (B : Bi K mg) (C_law_bent : Cl P w K mg base (L2N.CX P w) false "_law_bent" 4 ["box", "p", "k", "lines"] (sp_law_bent K)) (C_law_box : Cl P w K mg base (L2N.CX P w) false "_law_box" 1 ["script"] (sp_law_box K)) (C_law_draw : Cl P w K mg base (L2N.CX P w) false "_law_draw" 1 ["box", "limit"] (sp_law_draw K)) (C_law_right : Cl P w K mg base (L2N.CX P w) true "_law_right" 13 ["text"] (sp_law_right K)) (C_law_row_text : Cl P w K mg base (L2N.CX P w) false "_law_row_text" 2 ["box", "p", "k"] (sp_law_row_text K)) : Cl P w K mg base (L2N.CX P w) true "_law_all" 14 ["script"] (sp_law_all K) := by
  refine cl_of F gm sc_law_all len_law_all (fun _ _ _ _ _ _ us hl => match us, hl with | [_], _ => rfl) (fun cdv A outer s H vs Q E hr hg h => ⟨t_law_all K, PSs.nox ?_, go_law_all h⟩)
  have nd := sc_law_all.nd
  have hu2 := hr.units
  have hg := hg rfl
  have hu := hu70 hr
  exact (pss_cons (ps_set (i := 1) nd rfl (Or.inr rfl) (pe_cl C_law_box (hr.mono (by decide)) (fun z => Bool.noConfusion z) passF rfl (pa_cons (pv 0) pa_nil)))
    (pss_cons (ps_for PassesOwn.never rfl (pi_range1 rfl B.b_range (pa_cons pe_int pa_nil)) (pg_name (i := 2) nd rfl (Or.inl rfl)) (pss_cons (ps_set (i := 3) nd rfl (Or.inr rfl) (pe_ix ix_seq (pe_lst (pa_cons pe_int (pa_cons pe_int (pa_cons pe_int (pa_cons pe_int (pa_cons pe_int (pa_cons pe_int (pa_cons pe_int (pa_cons pe_int (pa_cons pe_int (pa_cons pe_int (pa_cons pe_int pa_nil)))))))))))) (pe_cl C_law_draw (hr.mono (by decide)) (fun z => Bool.noConfusion z) passF rfl (pa_cons (pv 1) (pa_cons pe_int pa_nil))) (fun _ _ => rfl)))
    (pss_cons (ps_set (i := 4) nd rfl (Or.inr rfl) (pe_op op_addP pe_int (pe_cl C_law_draw (hr.mono (by decide)) (fun z => Bool.noConfusion z) passF rfl (pa_cons (pv 1) (pa_cons pe_int pa_nil)))))
    (pss_cons (ps_set (i := 5) nd rfl (Or.inl rfl) (pe_lst (pa_cons (pe_op op_addP (pe_op op_addP (pe_op op_addP pe_str (pe_callTy call_strP rfl B.b_str (by decide +kernel) (pa_cons (pv 3) pa_nil))) pe_str) (pe_callTy call_strP rfl B.b_str (by decide +kernel) (pa_cons (pv 4) pa_nil))) pa_nil)))
    (pss_cons (ps_for PassesOwn.never rfl (pi_range1 rfl B.b_range (pa_cons (pe_op op_addP pe_int (pe_cl C_law_draw (hr.mono (by decide)) (fun z => Bool.noConfusion z) passF rfl (pa_cons (pv 1) (pa_cons pe_int pa_nil)))) pa_nil)) (pg_name (i := 6) nd rfl (Or.inl rfl)) (pss_cons (ps_setLc (i := 7) (own := [("r", 8)]) (g := gName 8) (tt := tYes) rfl nd rfl rfl (sw_true rfl rfl rfl (by decide +kernel)) (pi_range1 rfl B.b_range (pa_cons (pe_ix ix_seq (pe_lst (pa_cons pe_int (pa_cons pe_int (pa_cons pe_int (pa_cons pe_int pa_nil))))) (pe_cl C_law_draw (hr.mono (by decide)) (fun z => Bool.noConfusion z) passF rfl (pa_cons (pv 1) (pa_cons pe_int pa_nil))) (fun _ _ => rfl)) pa_nil)) (blkOk_by (own := [("r", 8)]) (N := N_law_all) (sc := defScope s_law_all) (by decide +kernel)) (fun _ _ _ _ _ => pg_name (i := 8) nd rfl (Or.inl rfl)) (fun _ _ _ _ _ => pts_nil) (fun _ _ _ _ _ => (pe_cl C_law_row_text (hr.mono (by decide)) (fun z => Bool.noConfusion z) passF rfl (pa_cons (pv 1) (pa_cons (pv 3) (pa_cons (pv 4) pa_nil))))))
    (pss_one (ps_expr (pe_bm PySem.F.plainAttrs_list PySem.F.slot_list_append PySem.F.type_list_append mt_append (pv 5) (pa_cons (pe_m1 PySem.F.slot_str_join PySem.F.type_str_join mt_joinP pe_str (pe_op op_addP (pe_lst (pa_cons pe_str pa_nil)) (pv 7))) pa_nil))))))
    (pss_one (ps_if (PW.pt (pw_or (pt_not (pt_truth (pe_cl C_law_right (hr.mono (by decide)) (fun _ => hg) passF rfl (pa_cons (pe_m1 PySem.F.slot_str_join PySem.F.type_str_join mt_joinP pe_str (pv 5)) pa_nil)) (by intro _; rfl))) (pw_or1 (pt_not (pt_truth (pe_cl C_law_right (hr.mono (by decide)) (fun _ => hg) passF rfl (pa_cons (pe_m1 PySem.F.slot_str_join PySem.F.type_str_join mt_joinP pe_str (pe_cl C_law_bent (hr.mono (by decide)) (fun z => Bool.noConfusion z) passF rfl (pa_cons (pv 1) (pa_cons (pv 3) (pa_cons (pv 4) (pa_cons (pv 5) pa_nil)))))) pa_nil)) (by intro _; rfl)))))) (pss_one (ps_ret pe_bl)) pss_nil)))))))
    (pss_one (ps_ret (pe_and (pe_cl C_law_right (hr.mono (by decide)) (fun _ => hg) passF rfl (pa_cons (pe_ix ix_seq (pv 5) pe_int (fun _ _ => rfl)) pa_nil)) (pe_and (pe_cl C_law_right (hr.mono (by decide)) (fun _ => hg) passF rfl (pa_cons pe_str pa_nil)) (pe_one (pe_cl C_law_right (hr.mono (by decide)) (fun _ => hg) passF rfl (pa_cons (pe_op op_addP (pe_m1 PySem.F.slot_str_join PySem.F.type_str_join mt_joinP pe_str (pv 5)) pe_str) pa_nil)))))))))
set_option maxRecDepth 100000 in
theorem ok_law (F : FnP K "law" "law" s_law f fd) (gm : mg "law" = some (.ref f)) (B : Bi K mg) (C_law_all : Cl P w K mg base (L2N.CX P w) true "_law_all" 14 ["script"] (sp_law_all K)) : Cl P w K mg base (L2N.CX P w) true "law" 15 ["script"] (sp_law K) := by
  refine cl_of F gm sc_law len_law (fun _ _ _ _ _ _ us hl => match us, hl with | [_], _ => rfl) (fun cdv A outer s H vs Q E hr hg h => ⟨t_law K, PSs.nox ?_, go_law h⟩)
  have nd := sc_law.nd
  have hu2 := hr.units
  have hg := hg rfl
  have hu := hu70 hr
  exact (pss_one (ps_try_only (tb := fun _ => (tRet (tCall (sp_law_all K) [] E0 (tCons (tVar 0) tNil)))) (ts := fun _ _ _ => (tRet (tC (.bl false)))) (Wout := fun _ _ _ _ => False) rfl rfl ⟨rfl, by decide, .inl (B.x_HallError).choose_spec⟩ takes0 (fun W pn xe tk hp => (pss_one (ps_ret (pe_cl C_law_all (hr.mono (by decide)) (fun _ => hg) passF rfl (pa_cons (pv 0) pa_nil))))) (fun a oe cls dd pn _ _ => (pss_one (ps_ret pe_bl)))))
set_option maxRecDepth 100000 in
theorem okF_law (F : FnP K "law" "law" s_law f fd) (gm : mg "law" = some (.ref f)) (B : Bi K mg) (C_law_all : Cl P w K mg base (L2N.CX P w) true "_law_all" 14 ["script"] (sp_law_all K)) : FnG P w K mg base (L2N.CX P w) true 15 f fd ["script"] (sp_law K) := by
  refine fn_ofG F sc_law len_law (fun cdv A outer s H vs Q E hr hg h => ⟨t_law K, PSs.nox ?_, go_law h⟩)
  have nd := sc_law.nd
  have hu2 := hr.units
  have hg := hg rfl
  have hu := hu70 hr
  exact (pss_one (ps_try_only (tb := fun _ => (tRet (tCall (sp_law_all K) [] E0 (tCons (tVar 0) tNil)))) (ts := fun _ _ _ => (tRet (tC (.bl false)))) (Wout := fun _ _ _ _ => False) rfl rfl ⟨rfl, by decide, .inl (B.x_HallError).choose_spec⟩ takes0 (fun W pn xe tk hp => (pss_one (ps_ret (pe_cl C_law_all (hr.mono (by decide)) (fun _ => hg) passF rfl (pa_cons (pv 0) pa_nil))))) (fun a oe cls dd pn _ _ => (pss_one (ps_ret pe_bl)))))
theorem mk_Book (F : FnP K "__init__" "Book.__init__" s_Book___init f fd) (M : Mk K (He.ga K "Book") f) (gm : mg "Book" = some (.ref (He.ga K "Book"))) (B : Bi K mg) (C_are_halls : Cl P w K mg base (L2N.CX P w) false "are_halls" 5 ["p", "k", "value"] (sp_are_halls K)) (C_demand_from_one : Cl P w K mg base (L2N.CX P w) false "demand_from_one" 3 ["value"] (sp_demand_from_one K)) (C_demand_prime : Cl P w K mg base (L2N.CX P w) false "demand_prime" 3 ["p"] (sp_demand_prime K)) (BC : BkC K) : MakC P w K mg base (L2N.CX P w) 6 "Book" (He.ga K "Book") (sp_Book___init K) := by
  refine makC_of M gm F sc_Book___init len_Book___init (fun _ _ _ _ _ _ us hl => match us, hl with | [_, _, _, _], _ => rfl) (fun cdv A outer s H vs Q E hr hg h => ⟨t_Book___init K, PSs.nox ?_, go_Book___init BC h⟩)
  have nd := sc_Book___init.nd
  have hu2 := hr.units
  have hu3 := hu65 hr
  exact (pss_cons (ps_expr (pe_cl C_demand_prime (hr.mono (by decide)) (fun z => Bool.noConfusion z) passF rfl (pa_cons (pv 1) pa_nil)))
    (pss_cons (ps_expr (pe_cl C_demand_from_one (hr.mono (by decide)) (fun z => Bool.noConfusion z) passF rfl (pa_cons (pv 2) pa_nil)))
    (pss_cons (ps_if (pt_not (pt_truth (pe_cl C_are_halls (hr.mono (by decide)) (fun z => Bool.noConfusion z) passF rfl (pa_cons (pv 1) (pa_cons (pv 2) (pa_cons (pv 3) pa_nil)))) (by intro _; rfl))) (pss_one ps_never) pss_nil)
    (pss_cons (ps_fld (pv 0) (pv 1) rfl)
    (pss_cons (ps_fld (pv 0) (pv 2) rfl)
    (pss_one (ps_fld (pv 0) (pv 3) rfl)))))))
end
end Mh
namespace Mh
open PySem PySem.Spec PyProof.Rows L2 TL L2H
section
variable {P : Program} {w : World} {K : PySem.W.Frag} {mg : Str → Option Value} {base : Heap} {f D : Addr} {fd : FuncData}
theorem call_reprH {X : Cx} : CallR X (.builtin "repr") rReprH := by
  rintro pins s σ H xs us Q I r (⟨z, rfl, ok, q⟩ | ⟨i, rfl, hn, q⟩)
  · obtain ⟨u, rfl, t, rfl⟩ := vals1 r
    have hl := ok.text
    rw [PyData.shown_str] at hl
    refine PySem.P.repr_of_str ?_ hl
    rw [PyData.shown_str] at q
    exact ⟨.str (reprText z), H, I.tok _, ⟨_, rfl⟩, q⟩
  · obtain ⟨u, rfl, t, rfl⟩ := vals1 r
    refine PySem.P.repr_of_int hn ?_
    rw [PyData.shown_int] at q
    exact ⟨.str _, H, I.tok _, ⟨_, rfl⟩, q⟩
theorem len_sameH {K : PySem.W.Frag} : ∀ vs H Q E, sp_sameH K vs H Q E → vs.length = 2 := fun _ _ _ _ h => sp_len (fun ks S Z a => by obtain ⟨_, rfl, _⟩ := a; rfl) h
theorem hk_law_same (F : FnP K "_law_same" "_law_same" s_law_same f fd) (gm : mg "_law_same" = some (.ref f)) (B : Bi K mg) : ClH P w K mg base (L2N.CX P w) "_law_same" 1 ["due", "got"] (sp_sameH K) := by
  refine clH_of F gm sc_law_same len_sameH (fun _ _ _ _ _ _ us hl => match us, hl with | [_, _], _ => rfl) (fun cdv A outer s H vs Q E p hot1 hr h => ⟨t_sameH K, PSs.nox ?_, go_sameH h⟩)
  have nd := sc_law_same.nd
  have hu2 : (A.deeper (envOfC "_law_same" (defScope s_law_same) s.heap.objs.size f cdv)).units + 64 < cLine := by have := hr.un; omega
  exact (pss_one (ps_ret (pe_and (pe_cmpR (op_eqP hu2) (pv 0) (pv 1) (nomark _)) (pe_one (pe_cmpR (op_eqP hu2) (pe_callB call_reprH rfl B.b_repr (by decide +kernel) (pa_cons (pv 0) pa_nil)) (pe_callB call_reprH rfl B.b_repr (by decide +kernel) (pa_cons (pv 1) pa_nil)) (nomark _))))))
theorem takesN {X : Cx} : L2N.Takes X (fun _ _ _ _ => False) := fun _ _ x => by
  obtain ⟨_, _, _, _, _, _, _, _, _, _, _, _, _, _, _, _, z⟩ := x
  exact z.elim
theorem ok_law_right (hD : PySem.W.exmOne K (.ref D) (.ref D) = some true) (xf : XfC K D) (n1 : PySem.W.findIn K (.ref D) "text" = some none) (n2 : PySem.W.findIn K (.ref D) "at" = some none) (mD : mg "InvalidText" = some (.ref D)) (BC : BkC K) (F : FnP K "_law_right" "_law_right" s_law_right f fd) (gm : mg "_law_right" = some (.ref f)) (B : Bi K mg)
    (C_law_read : Cl P w K mg base (L2N.CX P w) false "_law_read" 3 ["text"] (sp_law_read K)) (C_law_same : Cl P w K mg base (L2N.CX P w) true "_law_same" 1 ["due", "got"] (sp_law_same K)) (C_read_book : Cl P w K mg base (L2N.CX P w) false "read_book" 12 ["text"] (sp_read_bookX K D)) (C_write_book : Cl P w K mg base (L2N.CX P w) false "write_book" 4 ["book"] (sp_write_book K))
    (H_law_same : ClH P w K mg base (L2N.CX P w) "_law_same" 1 ["due", "got"] (sp_sameH K)) : Cl P w K mg base (L2N.CX P w) true "_law_right" 13 ["text"] (sp_law_right K) := by
  refine cl_of F gm sc_law_right len_law_right (fun _ _ _ _ _ _ us hl => match us, hl with | [_], _ => rfl) (fun cdv A outer s H vs Q E hr hg h => ⟨t_law_right K D, PSs.nox ?_, go_law_right BC hD h⟩)
  have nd := sc_law_right.nd
  have hg := hg rfl
  have hu2 := hr.units
  refine pss_cons (ps_set (i := 1) nd rfl (Or.inl rfl) (pe_cl C_law_read (hr.mono (by decide)) (fun z => Bool.noConfusion z) passF rfl (pa_cons (pv 0) pa_nil)))
    (pss_cons (L2N.ps_try_as (i := 3) (tb := fun W => tAsg (tCallS (sp_read_bookX K D) (L2.WE W) (tCons (tVar 0) tNil)) (gName 2)) (ts := s_rgt K D) (Wout := fun _ _ _ _ => False) rfl rfl nd rfl rfl ⟨rfl, by decide, .inl mD⟩ takesN (fun W pn xe tk hp => pss_one (ps_set (i := 2) nd rfl (Or.inl rfl) (pe_clS C_read_book (hr.mono (by decide)) (fun z => Bool.noConfusion z) (L2N.passAt tk) rfl (pa_cons (pv 0) pa_nil)))) (fun a oe cls dd pn hz hf => ?_))
    (pss_cons (ps_if (PW.pt (pw_or (pt_cmpR (op_neP hu2) (pe_callB call_lenP rfl B.b_len (by decide +kernel) (pa_cons (pv 1) pa_nil)) pe_int (nomark _)) (pw_or (pt_not (pt_truth (pe_callB call_isi rfl B.b_isinstance (by decide +kernel) (pa_cons (pv 2) (pa_cons (pe_glob rfl B.k_Book rfl) pa_nil))) (by intro _; rfl))) (pw_or1 (pt_not (pt_truth (pe_cl C_law_same (hr.mono (by decide)) (fun _ => hg) passF rfl (pa_cons (pe_tup (pa_cons (pe_ix ix_seq (pv 1) pe_int (fun _ _ => rfl)) (pa_cons (pe_ix ix_seq (pv 1) pe_int (fun _ _ => rfl)) (pa_cons (pe_ix ix_seq (pv 1) pe_int (fun _ _ => rfl)) pa_nil)))) (pa_cons (pe_tup (pa_cons (pe_fld (pv 2) rfl) (pa_cons (pe_fld (pv 2) rfl) (pa_cons (pe_fld (pv 2) rfl) pa_nil)))) pa_nil))) (by intro _; rfl))))))) (pss_one (ps_ret pe_bl)) pss_nil)
    (pss_one (ps_ret (pe_cl C_law_same (hr.mono (by decide)) (fun _ => hg) passF rfl (pa_cons (pv 0) (pa_cons (pe_cl C_write_book (hr.mono (by decide)) (fun z => Bool.noConfusion z) passF rfl (pa_cons (pv 2) pa_nil)) pa_nil)))))))
  obtain ⟨vs0, hd⟩ := hf
  have hot : ∀ {Y : Cx}, HotC (Y.suite a ((a, oe) :: pn)) := ⟨(a, oe), ⟨rfl, vs0, hd, hz.2.2 vs0 hd⟩, List.mem_cons_self⟩
  have hrh : RoomH 12 ((A.deeper (envOfC "_law_right" (defScope s_law_right) s.heap.objs.size f cdv)).mark (some (.ref a))) := ⟨hr.dp, hr.un⟩
  have ps0 : ∀ {Y : Cx} (σ : L2.St), PassesAt (L2N.CX Y.prog Y.w) Y σ E0 := fun σ pins H s e s' I c => passF pins σ H s e s' I c
  exact pss_one (ps_ret (pe_and (pe_cmpR (op_eqP hu2) (pe_callB call_lenP rfl B.b_len (by decide +kernel) (pa_cons (pv 1) pa_nil)) pe_int (nomark _)) (pe_and (pe_clH H_law_same (hrh.mono (by decide)) hot ps0 rfl (pa_cons (pv 0) (pa_cons (pe_xf xf n1 hz.zc ⟨vs0, hd⟩ (pv 3)) pa_nil))) (pe_one (pe_clH H_law_same (hrh.mono (by decide)) hot ps0 rfl (pa_cons (pe_ix ix_seq (pv 1) pe_int (fun _ _ => rfl)) (pa_cons (pe_xf xf n2 hz.zc ⟨vs0, hd⟩ (pv 3)) pa_nil)))))))
end
end Mh
namespace Mh
open PySem PySem.Spec PyProof.Rows L2 TL
theorem never_N {P : Program} {w : World} {H : Hp} {s : Shared} {e : Value} {s' : Shared} (c : L2N.CX P w [] H s (fun _ _ _ => False) e s') : False := by
  obtain ⟨_, _, _, _, _, _, _, _, _, _, _, _, z⟩ := c
  exact z.elim
theorem walk_gN {l : PySem.W.OpenLaw} {n k : Nat} {g : Bool} {q : Program} {loose : List Str} {XP : (Str → Option Value) → Heap → Prop} {YP : World → Heap → Prop} {d : DefRec} {x : Str} (most : l.most = some n) (short : n ≤ sizeLine) (plain : d.params.defaults = []) (room : Room k callerA)
    (F : ∀ (w : World) (mg : Str → Option Value) (fa : Addr) (h : Heap), YP w h → h.Ns mainGlobals mg → mg d.name = some (.ref fa) →
      ∃ (K : PySem.W.Frag) (fd : FuncData) (sp : Sp), K.In h ∧ (∀ (s : Shared) (u : Value), BindsTo s fd ⟨[u], []⟩ [(x, u)]) ∧
        (∀ (H : Hp) (a : Addr) (ns : List Int), ns.length ≤ n → (∀ z ∈ ns, Builtin.Int.intBits z ≤ 1048576) → Only H → SqL K H a (ns.map V.int) → sp [.ref a] H (fun v _ => v = .bl true) fun _ _ _ => False) ∧
        ∀ base : Heap, K.In base → base.Ns mainGlobals mg → FnG l.prog w K mg base (L2N.CX l.prog w) g k fa fd [x] sp) : PySem.W.WalkO q loose XP YP l.row.toRowW d [] (fun f vs => PySem.call f vs) :=
  Att.attach_callB most plain fun w s₀ s₁ mg mb fa o pm cd doc a vs ns G Y _ _ _ isF scr are len bits noGen => by
    obtain ⟨K, fd, sp, stands, bind, prom, hF⟩ := F w mg fa _ Y G.T.g isF
    exact law_runs stands G.T.g G.T.b G.T.builtins G.T.nolimit noGen scr are (Nat.le_trans len short) room hF bind (fun H only seq => prom H a ns len bits only seq) fun H e s' c => never_N c
end Mh
namespace Mh
open PySem PySem.Spec PyProof.Rows L2
theorem rz_text {w : World} {K : PySem.W.Frag} {h base : Heap} {mg : Str → Option Value} (X : K.In h) (G : h.Ns mainGlobals mg) (i1 : iniB PP K iT = true) (i2 : iniW K iT = iT.val) (sf : mg "super" = none) :
    Rz PP w K mg base "InvalidText" (He.ga K "InvalidText") ["self", "text", "at"] (spI2 (He.ga K "InvalidText") "text" "at") := by
  obtain ⟨⟨fd, hI, hB⟩, iC, tI, gl, nf⟩ := ini_ok i1 i2
  have n1 : PySem.W.findIn K (.ref (He.ga K "InvalidText")) "text" = some none := nf "text" List.mem_cons_self
  have n2 : PySem.W.findIn K (.ref (He.ga K "InvalidText")) "at" = some none := nf "at" (List.mem_cons_of_mem _ List.mem_cons_self)
  refine ⟨hI.cls, ⟨iniF K iT, fd, iC, tI, ?_, hB _ fun _ _ _ _ _ _ _ us hl => match us, hl with | [_, _, _], _ => rfl⟩, PySem.W.mg_of X G gl⟩
  refine hall_fn (ps := ["self", "text", "at"]) hI sf ⟨_, rfl, rfl⟩ rfl rfl rfl (by decide +kernel) (by decide +kernel) (by decide +kernel) ?_ rfl rfl (by rfl) ?_ ?_ (fun env => rfl) (fun env => rfl) ?_
  · intro x hx
    exact (show ∀ y ∈ iT.scope.names, y.2 = .free → y.1 = "__class__" by decide +kernel) _ (PySem.mem_of_lookup hx) rfl
  · rintro vs H Q E ⟨a, v1, v2, rfl, _⟩
    rfl
  · rintro vs H Q E ⟨a, v1, v2, rfl, ha, _⟩
    exact ⟨a, _, rfl, ha⟩
  · intro env A outer s H vs Q E hsc hh
    cases env
    cases hsc
    exact ⟨_, pss_cons (ps_ost (pv 0) (pv 1)) (pss_one (ps_ost (pv 0) (pv 2))), go_I2 rfl hI.cls n1 n2 hh⟩
end Mh
namespace Mh
open PySem PySem.Spec PyProof.Rows L2
/-! ### a Hook that tells of own classes and of the module's tuples of numbers too -/
def clsIB (K : PySem.W.Frag) (D : Addr) : Bool :=
  decide (PySem.W.kitOne K (.ref D) (.ref D) = some true) && ((["NoneType", "bool", "int", "str", "tuple", "list"] : List String).all (fun T => decide (PySem.W.kitOne K (.type T) (.ref D) = some false)) &&
  (He.eqO (PySem.W.findIn K (.ref D) "__class__") (some (some (.builtin "object.__class__"))) && (decide (PySem.W.specialIn K (.builtin "object.__class__") "__get__" = some (some (.builtin "getset_descriptor.__get__"))) &&
  (decide (PySem.W.takesIn K (.builtin "object.__class__") = some true) && (decide (PySem.W.mroIn K D (.type "object") = some true) && (["int", "bool", "str", "tuple", "list"] : List String).all (fun T => decide (PySem.W.kitOne K (.ref D) (.type T) = some false)))))))
theorem clsI_ok {K : PySem.W.Frag} {D : Addr} (c : Cls K D) (h : clsIB K D = true) : ClsI K D := by
  unfold clsIB at h
  simp only [Bool.and_eq_true] at h
  obtain ⟨h1, h2, h3, h4, h5, h6, h7⟩ := h
  exact ⟨c, of_decide_eq_true h1, fun T hT => of_decide_eq_true (List.all_eq_true.mp h2 T hT), He.eqO_ok h3, of_decide_eq_true h4, of_decide_eq_true h5, of_decide_eq_true h6, fun T hT => of_decide_eq_true (List.all_eq_true.mp h7 T hT)⟩
def tupB (K : PySem.W.Frag) (x : Str) (ns : List Int) : Bool := match K.lookup (He.ga K x) with
  | some ⟨.type t, _, .seq its _, _⟩ => decide (t = "tuple") && (decide (its.size ≤ 1000) && He.relAll (ns.map V.int) its.toList)
  | _ => false
theorem tup_ok {K : PySem.W.Frag} {x : Str} {ns : List Int} (h : tupB K x ns = true) : TupG K x ns := by
  unfold tupB at h
  split at h
  · rename_i t d its n sl e
    simp only [Bool.and_eq_true, decide_eq_true_eq] at h
    obtain ⟨rfl, h2, h3⟩ := h
    exact ⟨fun H => .inr ⟨_, its, n, e, rfl, rfl, Nat.le_trans h2 (by rw [sizeLine_eq]; decide), He.relAll_ok h3⟩⟩
  · cases h
abbrev AlX : Type := AlE × Bool
def obsKX (P : Program) (fa : List He.Fa) (fn : List He.DefD) (fi : List IniD) (ck : PySem.W.Frag → Bool) (K : PySem.W.Frag) : AlX := (obsK P fa fn fi K, ck K)
def valX (fn : List He.DefD) (fi : List IniD) : AlX := (valE fn fi, true)
def obsX (P : Program) (n : Nat) (fa : List He.Fa) (fn : List He.DefD) (fi : List IniD) (ck : PySem.W.Frag → Bool) (g : Addr → Option Obj) : AlX := obsKX P fa fn fi ck (He.frG g (asE g n))
def hookX (P : Program) (n : Nat) (fa : List He.Fa) (fn : List He.DefD) (fi : List IniD) (ck : PySem.W.Frag → Bool) : PySem.W.Hook where
  α := AlX
  obs := fun s => obsX P n fa fn fi ck s.heap.get?
  val := fun _ => valX fn fi
  says := fun _ h => ∃ K : PySem.W.Frag, K.In h ∧ obsKX P fa fn fi ck K = valX fn fi
  of := fun _ _ e => ⟨_, He.frG_in, e⟩
  keeps := fun _ _ _ ⟨K, hK, c⟩ k => ⟨K, PySem.W.Frag.In.keeps hK k, c⟩
theorem obsX_eq {P : Program} {n : Nat} {fa : List He.Fa} {fn : List He.DefD} {fi : List IniD} {ck : PySem.W.Frag → Bool} {g : Addr → Option Obj} {s : Shared} (h : ∀ a, g a = s.heap.get? a) : obsX P n fa fn fi ck g = (hookX P n fa fn fi ck).obs s := by
  have e : g = s.heap.get? := funext h
  rw [e] <;> rfl
theorem saysX {P : Program} {fa : List He.Fa} {fn : List He.DefD} {fi : List IniD} {ck : PySem.W.Frag → Bool} {K : PySem.W.Frag} (c : obsKX P fa fn fi ck K = valX fn fi) : obsK P fa fn fi K = valE fn fi ∧ ck K = true := ⟨congrArg (fun z : AlX => z.1) c, congrArg (fun z : AlX => z.2) c⟩
end Mh
namespace Mh
open PySem PySem.Spec PyProof.Rows L2
/-! the head: facts by names, the run -/
def d_is_figure : He.DefD := ⟨("is_figure", none), "is_figure", "is_figure", defArgs s_is_figure, defBody s_is_figure, defScope s_is_figure, [], []⟩
def d_figures_end : He.DefD := ⟨("figures_end", none), "figures_end", "figures_end", defArgs s_figures_end, defBody s_figures_end, defScope s_figures_end, [], []⟩
def d_are_figures : He.DefD := ⟨("are_figures", none), "are_figures", "are_figures", defArgs s_are_figures, defBody s_are_figures, defScope s_are_figures, [], []⟩
def d_number_of : He.DefD := ⟨("number_of", none), "number_of", "number_of", defArgs s_number_of, defBody s_number_of, defScope s_number_of, [], []⟩
def d_any_number : He.DefD := ⟨("any_number", none), "any_number", "any_number", defArgs s_any_number, defBody s_any_number, defScope s_any_number, [], []⟩
def d_number_from_one : He.DefD := ⟨("number_from_one", none), "number_from_one", "number_from_one", defArgs s_number_from_one, defBody s_number_from_one, defScope s_number_from_one, [], []⟩
def d_number_below : He.DefD := ⟨("number_below", none), "number_below", "number_below", defArgs s_number_below, defBody s_number_below, defScope s_number_below, [], []⟩
def d_numbers_below : He.DefD := ⟨("numbers_below", none), "numbers_below", "numbers_below", defArgs s_numbers_below, defBody s_numbers_below, defScope s_numbers_below, [], []⟩
def d_is_integer : He.DefD := ⟨("is_integer", none), "is_integer", "is_integer", defArgs s_is_integer, defBody s_is_integer, defScope s_is_integer, [], []⟩
def d_is_number_below : He.DefD := ⟨("is_number_below", none), "is_number_below", "is_number_below", defArgs s_is_number_below, defBody s_is_number_below, defScope s_is_number_below, [], []⟩
def d_is_from_one : He.DefD := ⟨("is_from_one", none), "is_from_one", "is_from_one", defArgs s_is_from_one, defBody s_is_from_one, defScope s_is_from_one, [], []⟩
def d_are_numbers_below : He.DefD := ⟨("are_numbers_below", none), "are_numbers_below", "are_numbers_below", defArgs s_are_numbers_below, defBody s_are_numbers_below, defScope s_are_numbers_below, [], []⟩
def d_are_rows : He.DefD := ⟨("are_rows", none), "are_rows", "are_rows", defArgs s_are_rows, defBody s_are_rows, defScope s_are_rows, [], []⟩
def d_is_witness : He.DefD := ⟨("is_witness", none), "is_witness", "is_witness", defArgs s_is_witness, defBody s_is_witness, defScope s_is_witness, [], []⟩
def d_small_divisor : He.DefD := ⟨("small_divisor", none), "small_divisor", "small_divisor", defArgs s_small_divisor, defBody s_small_divisor, defScope s_small_divisor, [], []⟩
def d_is_prime_number : He.DefD := ⟨("is_prime_number", none), "is_prime_number", "is_prime_number", defArgs s_is_prime_number, defBody s_is_prime_number, defScope s_is_prime_number, [], []⟩
def d_demand_prime : He.DefD := ⟨("demand_prime", none), "demand_prime", "demand_prime", defArgs s_demand_prime, defBody s_demand_prime, defScope s_demand_prime, [], []⟩
def d_demand_from_one : He.DefD := ⟨("demand_from_one", none), "demand_from_one", "demand_from_one", defArgs s_demand_from_one, defBody s_demand_from_one, defScope s_demand_from_one, [], []⟩
def d_are_halls : He.DefD := ⟨("are_halls", none), "are_halls", "are_halls", defArgs s_are_halls, defBody s_are_halls, defScope s_are_halls, [], []⟩
def d_Book___init : He.DefD := ⟨("Book", some "__init__"), "__init__", "Book.__init__", defArgs s_Book___init, defBody s_Book___init, defScope s_Book___init, [], []⟩
def d_demand_book : He.DefD := ⟨("demand_book", none), "demand_book", "demand_book", defArgs s_demand_book, defBody s_demand_book, defScope s_demand_book, [], []⟩
def d_is_prime : He.DefD := ⟨("is_prime", none), "is_prime", "is_prime", defArgs s_is_prime, defBody s_is_prime, defScope s_is_prime, [], []⟩
def d_head_line : He.DefD := ⟨("head_line", none), "head_line", "head_line", defArgs s_head_line, defBody s_head_line, defScope s_head_line, [], []⟩
def d_row_word : He.DefD := ⟨("row_word", none), "row_word", "row_word", defArgs s_row_word, defBody s_row_word, defScope s_row_word, [], []⟩
def d_hall_line : He.DefD := ⟨("hall_line", none), "hall_line", "hall_line", defArgs s_hall_line, defBody s_hall_line, defScope s_hall_line, [], []⟩
def d_lines_of_book : He.DefD := ⟨("lines_of_book", none), "lines_of_book", "lines_of_book", defArgs s_lines_of_book, defBody s_lines_of_book, defScope s_lines_of_book, [], []⟩
def d_head_read : He.DefD := ⟨("head_read", none), "head_read", "head_read", defArgs s_head_read, defBody s_head_read, defScope s_head_read, [], []⟩
def d_row_read : He.DefD := ⟨("row_read", none), "row_read", "row_read", defArgs s_row_read, defBody s_row_read, defScope s_row_read, [], []⟩
def d_rows_read : He.DefD := ⟨("rows_read", none), "rows_read", "rows_read", defArgs s_rows_read, defBody s_rows_read, defScope s_rows_read, [], []⟩
def d_halls_read : He.DefD := ⟨("halls_read", none), "halls_read", "halls_read", defArgs s_halls_read, defBody s_halls_read, defScope s_halls_read, [], []⟩
def d_book_ahead : He.DefD := ⟨("book_ahead", none), "book_ahead", "book_ahead", defArgs s_book_ahead, defBody s_book_ahead, defScope s_book_ahead, [], []⟩
def d_lines_used : He.DefD := ⟨("lines_used", none), "lines_used", "lines_used", defArgs s_lines_used, defBody s_lines_used, defScope s_lines_used, [], []⟩
def d_write_book : He.DefD := ⟨("write_book", none), "write_book", "write_book", defArgs s_write_book, defBody s_write_book, defScope s_write_book, [], []⟩
def d_read_book : He.DefD := ⟨("read_book", none), "read_book", "read_book", defArgs s_read_book, defBody s_read_book, defScope s_read_book, [], []⟩
def d_law_box : He.DefD := ⟨("_law_box", none), "_law_box", "_law_box", defArgs s_law_box, defBody s_law_box, defScope s_law_box, [], []⟩
def d_law_draw : He.DefD := ⟨("_law_draw", none), "_law_draw", "_law_draw", defArgs s_law_draw, defBody s_law_draw, defScope s_law_draw, [], []⟩
def d_law_same : He.DefD := ⟨("_law_same", none), "_law_same", "_law_same", defArgs s_law_same, defBody s_law_same, defScope s_law_same, [], []⟩
def d_law_number : He.DefD := ⟨("_law_number", none), "_law_number", "_law_number", defArgs s_law_number, defBody s_law_number, defScope s_law_number, [], []⟩
def d_law_prime : He.DefD := ⟨("_law_prime", none), "_law_prime", "_law_prime", defArgs s_law_prime, defBody s_law_prime, defScope s_law_prime, [], []⟩
def d_law_read_row : He.DefD := ⟨("_law_read_row", none), "_law_read_row", "_law_read_row", defArgs s_law_read_row, defBody s_law_read_row, defScope s_law_read_row, [], []⟩
def d_law_read : He.DefD := ⟨("_law_read", none), "_law_read", "_law_read", defArgs s_law_read, defBody s_law_read, defScope s_law_read, [], []⟩
def d_law_row_text : He.DefD := ⟨("_law_row_text", none), "_law_row_text", "_law_row_text", defArgs s_law_row_text, defBody s_law_row_text, defScope s_law_row_text, [], []⟩
def d_law_head_bent : He.DefD := ⟨("_law_head_bent", none), "_law_head_bent", "_law_head_bent", defArgs s_law_head_bent, defBody s_law_head_bent, defScope s_law_head_bent, [], []⟩
def d_law_hall_bent : He.DefD := ⟨("_law_hall_bent", none), "_law_hall_bent", "_law_hall_bent", defArgs s_law_hall_bent, defBody s_law_hall_bent, defScope s_law_hall_bent, [], []⟩
def d_law_bent : He.DefD := ⟨("_law_bent", none), "_law_bent", "_law_bent", defArgs s_law_bent, defBody s_law_bent, defScope s_law_bent, [], []⟩
def d_law_right : He.DefD := ⟨("_law_right", none), "_law_right", "_law_right", defArgs s_law_right, defBody s_law_right, defScope s_law_right, [], []⟩
def d_law_all : He.DefD := ⟨("_law_all", none), "_law_all", "_law_all", defArgs s_law_all, defBody s_law_all, defScope s_law_all, [], []⟩
def d_law : He.DefD := ⟨("law", none), "law", "law", defArgs s_law, defBody s_law, defScope s_law, [], []⟩
def fnL : List He.DefD := [d_is_figure, d_figures_end, d_are_figures, d_number_of, d_any_number, d_number_from_one, d_number_below, d_numbers_below, d_is_integer, d_is_number_below, d_is_from_one, d_are_numbers_below, d_are_rows, d_is_witness, d_small_divisor, d_is_prime_number, d_demand_prime, d_demand_from_one, d_are_halls, d_Book___init, d_demand_book, d_is_prime, d_head_line, d_row_word, d_hall_line, d_lines_of_book, d_head_read, d_row_read, d_rows_read, d_halls_read, d_book_ahead, d_lines_used, d_write_book, d_read_book, d_law_box, d_law_draw, d_law_same, d_law_number, d_law_prime, d_law_read_row, d_law_read, d_law_row_text, d_law_head_bent, d_law_hall_bent, d_law_bent, d_law_right, d_law_all, d_law]
def faL : List He.Fa := [.glo "is_figure", .glo "figures_end", .glo "are_figures", .glo "number_of", .glo "any_number", .glo "number_from_one", .glo "number_below", .glo "numbers_below", .glo "is_integer", .glo "is_number_below", .glo "is_from_one", .glo "are_numbers_below", .glo "are_rows", .glo "is_witness", .glo "small_divisor", .glo "is_prime_number", .glo "demand_prime", .glo "demand_from_one", .glo "are_halls", .glo "demand_book", .glo "is_prime", .glo "head_line", .glo "row_word", .glo "hall_line", .glo "lines_of_book", .glo "head_read", .glo "row_read", .glo "rows_read", .glo "halls_read", .glo "book_ahead", .glo "lines_used", .glo "write_book", .glo "read_book", .glo "_law_box", .glo "_law_draw", .glo "_law_same", .glo "_law_number", .glo "_law_prime", .glo "_law_read_row", .glo "_law_read", .glo "_law_row_text", .glo "_law_head_bent", .glo "_law_hall_bent", .glo "_law_bent", .glo "_law_right", .glo "_law_all", .glo "law", .free "abs", .free "all", .free "bool", .free "int", .free "isinstance", .free "len", .free "list", .free "max", .free "min", .free "range", .free "repr", .free "reversed", .free "str", .free "super", .free "tuple", .cls "Book", .mkr "Book", .glo "Book", .noat "Book" "p", .noat "Book" "k", .noat "Book" "halls", .str "BOOK" "book", .str "FIGURES" "0123456789", .glo "FIRST", .str "HALL" "hall", .int "LONGEST" 4000, .glo "HallError"]
def ckL (K : PySem.W.Frag) : Bool := clsIB K (He.ga K "Book") && tupB K "FIRST" firstL
abbrev hkL : PySem.W.Hook := hookX PP 7 faL fnL [iT] ckL
def obL (s : PySem.W.SharedT) : AlX := obsX PP 7 faL fnL [iT] ckL (HandSHeadRun.getT s)
theorem ob_eqL (s : PySem.W.SharedT) : obL s = hkL.obs s.abs := obsX_eq (HandSHeadRun.getT_eq s)
def looseL : List Str := (["_wall", "FIGURES", "LONGEST", "is_figure", "figures_end", "are_figures", "number_of", "any_number", "number_from_one", "number_below", "numbers_below", "is_integer", "is_number_below", "is_from_one", "are_numbers_below", "are_rows", "HallError", "InvalidPrime", "InvalidNumber", "InvalidRows"] : List Str) ++ (["InvalidBook", "InvalidText", "FIRST", "power_modulo", "halvings", "is_witness", "small_divisor", "is_prime_number", "demand_prime", "demand_from_one", "are_halls", "Book", "demand_book", "is_prime", "BOOK", "HALL", "head_line", "row_word", "hall_line", "lines_of_book"] : List Str) ++ (["head_read", "row_read", "rows_read", "halls_read", "book_ahead", "lines_used", "write_book", "read_book", "_law_box", "_law_draw", "_law_same", "_law_number", "_law_prime", "_law_read_row", "_law_read", "_law_row_text", "_law_head_bent", "_law_hall_bent", "_law_bent", "_law_right"] : List Str) ++ (["_law_all"] : List Str)
theorem runL (w : World) : HandSHeadRun.RunEq RW (PySem.W.view RW.prog [72]) hkL obL 8000 looseL w := by
  intro os
  kernel_rfl
theorem bi_of {K : PySem.W.Frag} {h : Heap} {mg : Str → Option Value} (X : K.In h) (G : h.Ns mainGlobals mg) (c : He.SaysD faL fnL K) : Bi K mg where
  b_abs := He.free_ok X G (c.fact 47 (f := .free "abs") rfl)
  b_all := He.free_ok X G (c.fact 48 (f := .free "all") rfl)
  b_bool := He.free_ok X G (c.fact 49 (f := .free "bool") rfl)
  b_int := He.free_ok X G (c.fact 50 (f := .free "int") rfl)
  b_isinstance := He.free_ok X G (c.fact 51 (f := .free "isinstance") rfl)
  b_len := He.free_ok X G (c.fact 52 (f := .free "len") rfl)
  b_list := He.free_ok X G (c.fact 53 (f := .free "list") rfl)
  b_max := He.free_ok X G (c.fact 54 (f := .free "max") rfl)
  b_min := He.free_ok X G (c.fact 55 (f := .free "min") rfl)
  b_range := He.free_ok X G (c.fact 56 (f := .free "range") rfl)
  b_repr := He.free_ok X G (c.fact 57 (f := .free "repr") rfl)
  b_reversed := He.free_ok X G (c.fact 58 (f := .free "reversed") rfl)
  b_str := He.free_ok X G (c.fact 59 (f := .free "str") rfl)
  b_tuple := He.free_ok X G (c.fact 61 (f := .free "tuple") rfl)
  x_HallError := ⟨_, He.glo_ok X G (c.fact 73 (f := .glo "HallError") rfl)⟩
  k_Book := He.glo_ok X G (c.fact 64 (f := .glo "Book") rfl)
  c_BOOK := He.str_ok X G (c.fact 68 (f := .str "BOOK" "book") rfl)
  c_FIGURES := He.str_ok X G (c.fact 69 (f := .str "FIGURES" "0123456789") rfl)
  c_FIRST := He.glo_ok X G (c.fact 70 (f := .glo "FIRST") rfl)
  c_HALL := He.str_ok X G (c.fact 71 (f := .str "HALL" "hall") rfl)
  c_LONGEST := He.int_ok X G (c.fact 72 (f := .int "LONGEST" 4000) rfl)
theorem factsL {w : World} {K : PySem.W.Frag} {h : Heap} {mg : Str → Option Value} {f : Addr} (X : K.In h) (G : h.Ns mainGlobals mg) (hfa : mg ("law" : Str) = some (.ref f)) (cX : obsKX PP faL fnL [iT] ckL K = valX fnL [iT]) :
    ∃ fd : FuncData, (∀ (s : Shared) (u : Value), BindsTo s fd ⟨[u], []⟩ [("script", u)]) ∧ ∀ base : Heap, K.In base → base.Ns mainGlobals mg → FnG PP w K mg base (L2N.CX PP w) true 15 f fd ["script"] (sp_law K) := by
  obtain ⟨cE, ck⟩ := saysX cX
  obtain ⟨c, cI⟩ := saysE cE
  have B : Bi K mg := bi_of X G c
  unfold ckL at ck
  simp only [Bool.and_eq_true] at ck
  obtain ⟨ck1, ck2⟩ := ck
  have hT : TupG K "FIRST" firstL := tup_ok ck2
  have BC : BkC K := ⟨clsI_ok (He.cls_ok (c.fact 62 (f := .cls "Book") rfl)) ck1, He.noat_ok (c.fact 65 (f := .noat "Book" "p") rfl), He.noat_ok (c.fact 66 (f := .noat "Book" "k") rfl), He.noat_ok (c.fact 67 (f := .noat "Book" "halls") rfl)⟩
  have MB := He.mkr_ok (c.fact 63 (f := .mkr "Book") rfl)
  have mB : mg "Book" = some (.ref (He.ga K "Book")) := He.glo_ok X G (c.fact 64 (f := .glo "Book") rfl)
  obtain ⟨i1, i2⟩ := cI 0 iT rfl
  unfold iniB2 iniX at i1
  simp only [Bool.and_eq_true] at i1
  obtain ⟨i1, ixf, iex⟩ := i1
  obtain ⟨_, _, _, iGl, inf⟩ := ini_ok i1 i2
  have n1 : PySem.W.findIn K (.ref (He.ga K "InvalidText")) "text" = some none := inf "text" List.mem_cons_self
  have n2 : PySem.W.findIn K (.ref (He.ga K "InvalidText")) "at" = some none := inf "at" (List.mem_cons_of_mem _ List.mem_cons_self)
  have mD : mg "InvalidText" = some (.ref (He.ga K "InvalidText")) := PySem.W.mg_of X G iGl
  have iex : PySem.W.exmOne K (.ref (He.ga K "InvalidText")) (.ref (He.ga K "InvalidText")) = some true := of_decide_eq_true iex
  have sf : mg "super" = none := He.free_ok X G (c.fact 60 (f := .free "super") rfl)
  obtain ⟨a_is_figure, F_is_figure⟩ := c.def_ 0 (d := d_is_figure) rfl
  have m_is_figure := He.glo_ok X G (c.fact 0 (f := .glo "is_figure") rfl)
  obtain ⟨a_figures_end, F_figures_end⟩ := c.def_ 1 (d := d_figures_end) rfl
  have m_figures_end := He.glo_ok X G (c.fact 1 (f := .glo "figures_end") rfl)
  obtain ⟨a_are_figures, F_are_figures⟩ := c.def_ 2 (d := d_are_figures) rfl
  have m_are_figures := He.glo_ok X G (c.fact 2 (f := .glo "are_figures") rfl)
  obtain ⟨a_number_of, F_number_of⟩ := c.def_ 3 (d := d_number_of) rfl
  have m_number_of := He.glo_ok X G (c.fact 3 (f := .glo "number_of") rfl)
  obtain ⟨a_any_number, F_any_number⟩ := c.def_ 4 (d := d_any_number) rfl
  have m_any_number := He.glo_ok X G (c.fact 4 (f := .glo "any_number") rfl)
  obtain ⟨a_number_from_one, F_number_from_one⟩ := c.def_ 5 (d := d_number_from_one) rfl
  have m_number_from_one := He.glo_ok X G (c.fact 5 (f := .glo "number_from_one") rfl)
  obtain ⟨a_number_below, F_number_below⟩ := c.def_ 6 (d := d_number_below) rfl
  have m_number_below := He.glo_ok X G (c.fact 6 (f := .glo "number_below") rfl)
  obtain ⟨a_numbers_below, F_numbers_below⟩ := c.def_ 7 (d := d_numbers_below) rfl
  have m_numbers_below := He.glo_ok X G (c.fact 7 (f := .glo "numbers_below") rfl)
  obtain ⟨a_is_integer, F_is_integer⟩ := c.def_ 8 (d := d_is_integer) rfl
  have m_is_integer := He.glo_ok X G (c.fact 8 (f := .glo "is_integer") rfl)
  obtain ⟨a_is_number_below, F_is_number_below⟩ := c.def_ 9 (d := d_is_number_below) rfl
  have m_is_number_below := He.glo_ok X G (c.fact 9 (f := .glo "is_number_below") rfl)
  obtain ⟨a_is_from_one, F_is_from_one⟩ := c.def_ 10 (d := d_is_from_one) rfl
  have m_is_from_one := He.glo_ok X G (c.fact 10 (f := .glo "is_from_one") rfl)
  obtain ⟨a_are_numbers_below, F_are_numbers_below⟩ := c.def_ 11 (d := d_are_numbers_below) rfl
  have m_are_numbers_below := He.glo_ok X G (c.fact 11 (f := .glo "are_numbers_below") rfl)
  obtain ⟨a_are_rows, F_are_rows⟩ := c.def_ 12 (d := d_are_rows) rfl
  have m_are_rows := He.glo_ok X G (c.fact 12 (f := .glo "are_rows") rfl)
  obtain ⟨a_is_witness, F_is_witness⟩ := c.def_ 13 (d := d_is_witness) rfl
  have m_is_witness := He.glo_ok X G (c.fact 13 (f := .glo "is_witness") rfl)
  obtain ⟨a_small_divisor, F_small_divisor⟩ := c.def_ 14 (d := d_small_divisor) rfl
  have m_small_divisor := He.glo_ok X G (c.fact 14 (f := .glo "small_divisor") rfl)
  obtain ⟨a_is_prime_number, F_is_prime_number⟩ := c.def_ 15 (d := d_is_prime_number) rfl
  have m_is_prime_number := He.glo_ok X G (c.fact 15 (f := .glo "is_prime_number") rfl)
  obtain ⟨a_demand_prime, F_demand_prime⟩ := c.def_ 16 (d := d_demand_prime) rfl
  have m_demand_prime := He.glo_ok X G (c.fact 16 (f := .glo "demand_prime") rfl)
  obtain ⟨a_demand_from_one, F_demand_from_one⟩ := c.def_ 17 (d := d_demand_from_one) rfl
  have m_demand_from_one := He.glo_ok X G (c.fact 17 (f := .glo "demand_from_one") rfl)
  obtain ⟨a_are_halls, F_are_halls⟩ := c.def_ 18 (d := d_are_halls) rfl
  have m_are_halls := He.glo_ok X G (c.fact 18 (f := .glo "are_halls") rfl)
  obtain ⟨a_Book___init, F_Book___init⟩ := c.def_ 19 (d := d_Book___init) rfl
  obtain ⟨a_demand_book, F_demand_book⟩ := c.def_ 20 (d := d_demand_book) rfl
  have m_demand_book := He.glo_ok X G (c.fact 19 (f := .glo "demand_book") rfl)
  obtain ⟨a_is_prime, F_is_prime⟩ := c.def_ 21 (d := d_is_prime) rfl
  have m_is_prime := He.glo_ok X G (c.fact 20 (f := .glo "is_prime") rfl)
  obtain ⟨a_head_line, F_head_line⟩ := c.def_ 22 (d := d_head_line) rfl
  have m_head_line := He.glo_ok X G (c.fact 21 (f := .glo "head_line") rfl)
  obtain ⟨a_row_word, F_row_word⟩ := c.def_ 23 (d := d_row_word) rfl
  have m_row_word := He.glo_ok X G (c.fact 22 (f := .glo "row_word") rfl)
  obtain ⟨a_hall_line, F_hall_line⟩ := c.def_ 24 (d := d_hall_line) rfl
  have m_hall_line := He.glo_ok X G (c.fact 23 (f := .glo "hall_line") rfl)
  obtain ⟨a_lines_of_book, F_lines_of_book⟩ := c.def_ 25 (d := d_lines_of_book) rfl
  have m_lines_of_book := He.glo_ok X G (c.fact 24 (f := .glo "lines_of_book") rfl)
  obtain ⟨a_head_read, F_head_read⟩ := c.def_ 26 (d := d_head_read) rfl
  have m_head_read := He.glo_ok X G (c.fact 25 (f := .glo "head_read") rfl)
  obtain ⟨a_row_read, F_row_read⟩ := c.def_ 27 (d := d_row_read) rfl
  have m_row_read := He.glo_ok X G (c.fact 26 (f := .glo "row_read") rfl)
  obtain ⟨a_rows_read, F_rows_read⟩ := c.def_ 28 (d := d_rows_read) rfl
  have m_rows_read := He.glo_ok X G (c.fact 27 (f := .glo "rows_read") rfl)
  obtain ⟨a_halls_read, F_halls_read⟩ := c.def_ 29 (d := d_halls_read) rfl
  have m_halls_read := He.glo_ok X G (c.fact 28 (f := .glo "halls_read") rfl)
  obtain ⟨a_book_ahead, F_book_ahead⟩ := c.def_ 30 (d := d_book_ahead) rfl
  have m_book_ahead := He.glo_ok X G (c.fact 29 (f := .glo "book_ahead") rfl)
  obtain ⟨a_lines_used, F_lines_used⟩ := c.def_ 31 (d := d_lines_used) rfl
  have m_lines_used := He.glo_ok X G (c.fact 30 (f := .glo "lines_used") rfl)
  obtain ⟨a_write_book, F_write_book⟩ := c.def_ 32 (d := d_write_book) rfl
  have m_write_book := He.glo_ok X G (c.fact 31 (f := .glo "write_book") rfl)
  obtain ⟨a_read_book, F_read_book⟩ := c.def_ 33 (d := d_read_book) rfl
  have m_read_book := He.glo_ok X G (c.fact 32 (f := .glo "read_book") rfl)
  obtain ⟨a_law_box, F_law_box⟩ := c.def_ 34 (d := d_law_box) rfl
  have m_law_box := He.glo_ok X G (c.fact 33 (f := .glo "_law_box") rfl)
  obtain ⟨a_law_draw, F_law_draw⟩ := c.def_ 35 (d := d_law_draw) rfl
  have m_law_draw := He.glo_ok X G (c.fact 34 (f := .glo "_law_draw") rfl)
  obtain ⟨a_law_same, F_law_same⟩ := c.def_ 36 (d := d_law_same) rfl
  have m_law_same := He.glo_ok X G (c.fact 35 (f := .glo "_law_same") rfl)
  obtain ⟨a_law_number, F_law_number⟩ := c.def_ 37 (d := d_law_number) rfl
  have m_law_number := He.glo_ok X G (c.fact 36 (f := .glo "_law_number") rfl)
  obtain ⟨a_law_prime, F_law_prime⟩ := c.def_ 38 (d := d_law_prime) rfl
  have m_law_prime := He.glo_ok X G (c.fact 37 (f := .glo "_law_prime") rfl)
  obtain ⟨a_law_read_row, F_law_read_row⟩ := c.def_ 39 (d := d_law_read_row) rfl
  have m_law_read_row := He.glo_ok X G (c.fact 38 (f := .glo "_law_read_row") rfl)
  obtain ⟨a_law_read, F_law_read⟩ := c.def_ 40 (d := d_law_read) rfl
  have m_law_read := He.glo_ok X G (c.fact 39 (f := .glo "_law_read") rfl)
  obtain ⟨a_law_row_text, F_law_row_text⟩ := c.def_ 41 (d := d_law_row_text) rfl
  have m_law_row_text := He.glo_ok X G (c.fact 40 (f := .glo "_law_row_text") rfl)
  obtain ⟨a_law_head_bent, F_law_head_bent⟩ := c.def_ 42 (d := d_law_head_bent) rfl
  have m_law_head_bent := He.glo_ok X G (c.fact 41 (f := .glo "_law_head_bent") rfl)
  obtain ⟨a_law_hall_bent, F_law_hall_bent⟩ := c.def_ 43 (d := d_law_hall_bent) rfl
  have m_law_hall_bent := He.glo_ok X G (c.fact 42 (f := .glo "_law_hall_bent") rfl)
  obtain ⟨a_law_bent, F_law_bent⟩ := c.def_ 44 (d := d_law_bent) rfl
  have m_law_bent := He.glo_ok X G (c.fact 43 (f := .glo "_law_bent") rfl)
  obtain ⟨a_law_right, F_law_right⟩ := c.def_ 45 (d := d_law_right) rfl
  have m_law_right := He.glo_ok X G (c.fact 44 (f := .glo "_law_right") rfl)
  obtain ⟨a_law_all, F_law_all⟩ := c.def_ 46 (d := d_law_all) rfl
  have m_law_all := He.glo_ok X G (c.fact 45 (f := .glo "_law_all") rfl)
  obtain ⟨a_law, F_law⟩ := c.def_ 47 (d := d_law) rfl
  have m_law := He.glo_ok X G (c.fact 46 (f := .glo "law") rfl)
  have e := hfa.symm.trans m_law
  cases e
  have b := FunD.bindsA (ps := ["script"]) F_law fun _ _ _ _ _ _ us hl => match us, hl with | [_], _ => rfl
  refine ⟨a_law, fun s v => b s [v] rfl, fun base _ _ => ?_⟩
  have R := rz_text (w := w) (base := base) X G i1 i2 sf
  have C_is_figure := ok_is_figure (P := PP) (w := w) (K := K) (mg := mg) (base := base) F_is_figure m_is_figure B 
  have C_figures_end := ok_figures_end (P := PP) (w := w) (K := K) (mg := mg) (base := base) F_figures_end m_figures_end B C_is_figure
  have C_are_figures := ok_are_figures (P := PP) (w := w) (K := K) (mg := mg) (base := base) F_are_figures m_are_figures B C_figures_end
  have C_number_of := ok_number_of (P := PP) (w := w) (K := K) (mg := mg) (base := base) F_number_of m_number_of B C_are_figures
  have C_any_number := ok_any_number (P := PP) (w := w) (K := K) (mg := mg) (base := base) F_any_number m_any_number B C_number_of
  have C_number_from_one := ok_number_from_one (P := PP) (w := w) (K := K) (mg := mg) (base := base) F_number_from_one m_number_from_one B C_any_number
  have C_number_below := ok_number_below (P := PP) (w := w) (K := K) (mg := mg) (base := base) F_number_below m_number_below B C_any_number
  have C_numbers_below := ok_numbers_below (P := PP) (w := w) (K := K) (mg := mg) (base := base) F_numbers_below m_numbers_below B C_number_below
  have C_is_integer := ok_is_integer (P := PP) (w := w) (K := K) (mg := mg) (base := base) F_is_integer m_is_integer B 
  have C_is_number_below := ok_is_number_below (P := PP) (w := w) (K := K) (mg := mg) (base := base) F_is_number_below m_is_number_below B C_is_integer
  have C_is_from_one := ok_is_from_one (P := PP) (w := w) (K := K) (mg := mg) (base := base) F_is_from_one m_is_from_one B C_is_integer
  have C_are_numbers_below := ok_are_numbers_below (P := PP) (w := w) (K := K) (mg := mg) (base := base) F_are_numbers_below m_are_numbers_below B C_is_number_below
  have C_are_rows := ok_are_rows (P := PP) (w := w) (K := K) (mg := mg) (base := base) F_are_rows m_are_rows B C_are_numbers_below
  have C_is_witness := ok_is_witness (P := PP) (w := w) (K := K) (mg := mg) (base := base) F_is_witness m_is_witness B 
  have C_small_divisor := ok_small_divisor (P := PP) (w := w) (K := K) (mg := mg) (base := base) F_small_divisor m_small_divisor B  hT 
  have C_is_prime_number := ok_is_prime_number (P := PP) (w := w) (K := K) (mg := mg) (base := base) F_is_prime_number m_is_prime_number B C_is_witness C_small_divisor hT 
  have C_demand_prime := ok_demand_prime (P := PP) (w := w) (K := K) (mg := mg) (base := base) F_demand_prime m_demand_prime B C_is_integer C_is_prime_number
  have C_demand_from_one := ok_demand_from_one (P := PP) (w := w) (K := K) (mg := mg) (base := base) F_demand_from_one m_demand_from_one B C_is_from_one
  have C_are_halls := ok_are_halls (P := PP) (w := w) (K := K) (mg := mg) (base := base) F_are_halls m_are_halls B C_are_rows
  have C_Book___init := mk_Book (P := PP) (w := w) (K := K) (mg := mg) (base := base) F_Book___init MB mB B C_are_halls C_demand_from_one C_demand_prime BC
  have C_demand_book := ok_demand_book (P := PP) (w := w) (K := K) (mg := mg) (base := base) F_demand_book m_demand_book B  BC 
  have C_is_prime := ok_is_prime (P := PP) (w := w) (K := K) (mg := mg) (base := base) F_is_prime m_is_prime B C_is_integer C_is_prime_number
  have C_head_line := ok_head_line (P := PP) (w := w) (K := K) (mg := mg) (base := base) F_head_line m_head_line B  BC 
  have C_row_word := ok_row_word (P := PP) (w := w) (K := K) (mg := mg) (base := base) F_row_word m_row_word B 
  have C_hall_line := ok_hall_line (P := PP) (w := w) (K := K) (mg := mg) (base := base) F_hall_line m_hall_line B C_row_word
  have C_lines_of_book := ok_lines_of_book (P := PP) (w := w) (K := K) (mg := mg) (base := base) F_lines_of_book m_lines_of_book B C_hall_line C_head_line BC 
  have C_head_read := ok_head_read (P := PP) (w := w) (K := K) (mg := mg) (base := base) F_head_read m_head_read B C_any_number C_is_prime C_number_from_one
  have C_row_read := ok_row_read (P := PP) (w := w) (K := K) (mg := mg) (base := base) F_row_read m_row_read B C_numbers_below
  have C_rows_read := ok_rows_read (P := PP) (w := w) (K := K) (mg := mg) (base := base) F_rows_read m_rows_read B C_row_read
  have C_halls_read := ok_halls_read (P := PP) (w := w) (K := K) (mg := mg) (base := base) F_halls_read m_halls_read B C_rows_read
  have C_book_ahead := ok_book_ahead (P := PP) (w := w) (K := K) (mg := mg) (base := base) F_book_ahead m_book_ahead B C_Book___init C_halls_read C_head_read R
  have C_lines_used := ok_lines_used (P := PP) (w := w) (K := K) (mg := mg) (base := base) F_lines_used m_lines_used B  BC 
  have C_write_book := ok_write_book (P := PP) (w := w) (K := K) (mg := mg) (base := base) F_write_book m_write_book B C_demand_book C_lines_of_book BC 
  have C_read_book := ok_read_book (P := PP) (w := w) (K := K) (mg := mg) (base := base) F_read_book m_read_book B C_book_ahead C_lines_used R BC 
  have C_law_box := ok_law_box (P := PP) (w := w) (K := K) (mg := mg) (base := base) F_law_box m_law_box B 
  have C_law_draw := ok_law_draw (P := PP) (w := w) (K := K) (mg := mg) (base := base) F_law_draw m_law_draw B 
  have C_law_same := ok_law_same (P := PP) (w := w) (K := K) (mg := mg) (base := base) F_law_same m_law_same B 
  have C_law_number := ok_law_number (P := PP) (w := w) (K := K) (mg := mg) (base := base) F_law_number m_law_number B 
  have C_law_prime := ok_law_prime (P := PP) (w := w) (K := K) (mg := mg) (base := base) F_law_prime m_law_prime B 
  have C_law_read_row := ok_law_read_row (P := PP) (w := w) (K := K) (mg := mg) (base := base) F_law_read_row m_law_read_row B C_law_number
  have C_law_read := ok_law_read (P := PP) (w := w) (K := K) (mg := mg) (base := base) F_law_read m_law_read B C_law_number C_law_prime C_law_read_row
  have C_law_row_text := ok_law_row_text (P := PP) (w := w) (K := K) (mg := mg) (base := base) F_law_row_text m_law_row_text B C_law_draw
  have C_law_head_bent := ok_law_head_bent (P := PP) (w := w) (K := K) (mg := mg) (base := base) F_law_head_bent m_law_head_bent B C_law_draw
  have C_law_hall_bent := ok_law_hall_bent (P := PP) (w := w) (K := K) (mg := mg) (base := base) F_law_hall_bent m_law_hall_bent B C_law_draw C_law_row_text
  have C_law_bent := ok_law_bent (P := PP) (w := w) (K := K) (mg := mg) (base := base) F_law_bent m_law_bent B C_law_draw C_law_hall_bent C_law_head_bent C_law_row_text
  have H_law_same := hk_law_same (P := PP) (w := w) (K := K) (mg := mg) (base := base) F_law_same m_law_same B
  have C_law_right := ok_law_right (P := PP) (w := w) (K := K) (mg := mg) (base := base) (D := He.ga K "InvalidText") iex (xfB_ok ixf) n1 n2 mD BC F_law_right m_law_right B C_law_read C_law_same C_read_book C_write_book H_law_same
  have C_law_all := ok_law_all (P := PP) (w := w) (K := K) (mg := mg) (base := base) F_law_all m_law_all B C_law_bent C_law_box C_law_draw C_law_right C_law_row_text
  exact okF_law (P := PP) (w := w) (K := K) (mg := mg) (base := base) F_law m_law B C_law_all
end Mh
open PySem PySem.W PySem.Calls PyProof.Rows
theorem PySem.Challenge.cw_mendinghalls_k79_book_texts_refused_holds : PySem.Challenge.rw_mendinghalls_k79_book_texts_refused.Holds := by
  w_on; o_law
  refine HandSHeadRun.head_any (r := OpenLaw.row PySem.Challenge.rw_mendinghalls_k79_book_texts_refused) (q := view (OpenLaw.row PySem.Challenge.rw_mendinghalls_k79_book_texts_refused).prog [72]) (H := Mh.hkL) (ob := Mh.obL) (M := 8000) (loose := Mh.looseL) (d := HandSHeadRun.topDef (OpenLaw.row PySem.Challenge.rw_mendinghalls_k79_book_texts_refused).prog 72) (kwd := []) Mh.ob_eqL
    (by kernel_rfl) (fun s => by kernel_rfl) Mh.runL (by kernel_rfl) (by kernel_rfl) (by kernel_rfl) (by rfl) (by first | assumption | decide +kernel) (by decide +kernel) ⟨rfl, rfl, rfl, rfl, rfl, by decide +kernel⟩ ?hw ?hc
  case hw => w_witness2
  case hc =>
    refine Mh.walk_gN (l := PySem.Challenge.rw_mendinghalls_k79_book_texts_refused) (n := 63) (g := true) (k := 15) (x := "script") rfl (by decide) (by kernel_rfl) ⟨rfl, by decide, by decide⟩ ?F
    intro w mg fa h Y G hmg0
    obtain ⟨K, KX, c⟩ := Y
    have hmg : mg ("law" : PySem.Str) = some (.ref fa) := by
      have e : (HandSHeadRun.topDef (OpenLaw.row PySem.Challenge.rw_mendinghalls_k79_book_texts_refused).prog 72).name = ("law" : PySem.Str) := by kernel_rfl
      rw [← e]
      exact hmg0
    obtain ⟨fd, hb, hF⟩ := Mh.factsL (w := w) KX G hmg c
    exact ⟨K, fd, Mh.sp_law K, KX, hb, fun H a ns hl _ _ hS => ⟨a, ns, rfl, hS, fun _ => rfl⟩, hF⟩

