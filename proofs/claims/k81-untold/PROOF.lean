import PyProof.Rows.All
import Wide.All
import OpenK.AllK
import Wide.FinOn
import HandS.ForMost
import HandS.ForExc
import HandS.TupAny
import HandS.IsInst
import HandS.Rev
import HandS.Steps
import HandS.Evl
import HandS.Deep
import HandS.TupMul
import HandS.RaiseMore
import HandS.Text
import HandS.EndBits
import HandS.HeadEnd
import HandS.Defaults
import PyProof.ReprLen
import PyProof.ReprRoads
import PyProof.ListRange
import HandS.RevTup
import HandS.Flow
import HandS.TryOnly
import HandS.FStr
import HandS.Words
import HandS.WordsExc
import HandS.Codes
import HandS.Exc
import HandS.ExcInit
import HandS.ExcSuper
import HandS.ExcIs
import HandS.ExcField
import KE.KExcSuper
import HandS.HotCalls
import HandS.ExcCtx
import HandS.StrMore
import PyProof.StrLawsFrom
import HandS.Head0
import HandS.Head1
import HandS.Head2
import HandS.Head3
import HandS.HeadHook1
import HandS.HeadHook2
import KE.KStateDown
import PySem.Challenge.RW_mendinghalls_k81_untold_refused
set_option Elab.async false
set_option linter.all false
set_option maxRecDepth 100000
set_option maxHeartbeats 0
/-! Values instead of heaps: what a reading does to slots that hold data (PyData), lists of the def's own, or things of a kind. -/
namespace L2
open PySem

def Ext (H H' : Hp) : Prop := ∀ a o, H a = some o → H' a = some o
theorem Ext.refl (H : Hp) : Ext H H := fun _ _ h => h
theorem Ext.trans {H H1 H2 : Hp} (a : Ext H H1) (b : Ext H1 H2) : Ext H H2 := fun x o h => b x o (a x o h)
theorem Ext.rd {H H' : Hp} {a : Addr} {u : HO} (e : Ext H H') (h : Rd H a u) : Rd H' a u := by
  rcases h with h | ⟨o, h⟩
  · exact .inl (e _ _ h)
  · exact .inr ⟨o, e _ _ h⟩
theorem Ext.l {K : PySem.W.Frag} {H H' : Hp} {a : Addr} {xs : List V} (e : Ext H H') (h : SqL K H a xs) : SqL K H' a xs := by
  rcases h with h | h
  · exact .inl (e.rd h)
  · exact .inr h
theorem Ext.t {K : PySem.W.Frag} {H H' : Hp} {a : Addr} {xs : List V} (e : Ext H H') (h : SqT K H a xs) : SqT K H' a xs := by
  rcases h with h | h
  · exact .inl (e.rd h)
  · exact .inr h
mutual
theorem Dp.ex {K : PySem.W.Frag} {H H' : Hp} (e : Ext H H') : ∀ {v : V} {d : PyData}, Dp K H v d → Dp K H' v d
  | _, _, .non => .non
  | _, _, .bl b => .bl b
  | _, _, .int i => .int i
  | _, _, .str x => .str x
  | _, _, .lst h a => .lst (e.l h) (DpAll.ex e a)
  | _, _, .tup h a => .tup (e.t h) (DpAll.ex e a)
theorem DpAll.ex {K : PySem.W.Frag} {H H' : Hp} (e : Ext H H') : ∀ {vs : List V} {ds : List PyData}, DpAll K H vs ds → DpAll K H' vs ds
  | _, _, .nil => .nil
  | _, _, .cons h a => .cons (Dp.ex e h) (DpAll.ex e a)
end
/-- no list within -/
def nl : PyData → Bool
  | .none => true
  | .bool _ => true
  | .int _ => true
  | .str _ => true
  | .list _ => false
  | .tuple xs => nlAll xs
  | .dict _ => false
where nlAll : List PyData → Bool
  | [] => true
  | x :: xs => nl x && nlAll xs
abbrev nlAll := nl.nlAll
/-- the tuples stay -/
def Tx (H H' : Hp) : Prop := ∀ a xs, Rd H a (.tup xs) → Rd H' a (.tup xs)
theorem Tx.t {K : PySem.W.Frag} {H H' : Hp} {a : Addr} {xs : List V} (e : Tx H H') (h : SqT K H a xs) : SqT K H' a xs := by
  rcases h with h | h
  · exact .inl (e _ _ h)
  · exact .inr h
mutual
theorem Dp.tx {K : PySem.W.Frag} {H H' : Hp} (e : Tx H H') : ∀ {v : V} {d : PyData}, nl d = true → Dp K H v d → Dp K H' v d
  | _, _, _, .non => .non
  | _, _, _, .bl b => .bl b
  | _, _, _, .int i => .int i
  | _, _, _, .str x => .str x
  | _, _, n, .lst h a => by simp [nl] at n
  | _, _, n, .tup h a => .tup (e.t h) (DpAll.tx e (by simpa [nl] using n) a)
theorem DpAll.tx {K : PySem.W.Frag} {H H' : Hp} (e : Tx H H') : ∀ {vs : List V} {ds : List PyData}, nlAll ds = true → DpAll K H vs ds → DpAll K H' vs ds
  | _, _, _, .nil => .nil
  | _, _, n, .cons h a => by
    simp only [nlAll, nl.nlAll, Bool.and_eq_true] at n
    exact .cons (Dp.tx e n.1 h) (DpAll.tx e n.2 a)
end
theorem DpAll.length {K : PySem.W.Frag} {H : Hp} : ∀ {vs : List V} {ds : List PyData}, DpAll K H vs ds → vs.length = ds.length
  | _, _, .nil => rfl
  | _, _, .cons _ a => by simp [DpAll.length a]
theorem DpAll.append {K : PySem.W.Frag} {H : Hp} : ∀ {vs ws : List V} {ds es : List PyData}, DpAll K H vs ds → DpAll K H ws es → DpAll K H (vs ++ ws) (ds ++ es)
  | _, _, _, _, .nil, b => b
  | _, _, _, _, .cons h a, b => .cons h (DpAll.append a b)
theorem DpAll.get {K : PySem.W.Frag} {H : Hp} : ∀ {vs : List V} {ds : List PyData} {i : Nat} {v : V}, DpAll K H vs ds → vs[i]? = some v → ∃ d, ds[i]? = some d ∧ Dp K H v d
  | _, _, i, v, .nil, e => by simp at e
  | _, _, 0, v, .cons h a, e => by simp at e; subst e; exact ⟨_, rfl, h⟩
  | _, _, i + 1, v, .cons h a, e => by
    obtain ⟨d, h1, h2⟩ := DpAll.get (i := i) a (by simpa using e)
    exact ⟨d, by simpa using h1, h2⟩
theorem DpAll.getd {K : PySem.W.Frag} {H : Hp} : ∀ {vs : List V} {ds : List PyData} {i : Nat} {d : PyData}, DpAll K H vs ds → ds[i]? = some d → ∃ v, vs[i]? = some v ∧ Dp K H v d
  | _, _, i, v, .nil, e => by simp at e
  | _, _, 0, v, .cons h a, e => by simp at e; subst e; exact ⟨_, rfl, h⟩
  | _, _, i + 1, v, .cons h a, e => by
    obtain ⟨d, h1, h2⟩ := DpAll.getd (i := i) a (by simpa using e)
    exact ⟨d, by simpa using h1, h2⟩
theorem DpAll.take {K : PySem.W.Frag} {H : Hp} : ∀ {vs : List V} {ds : List PyData} (n : Nat), DpAll K H vs ds → DpAll K H (vs.take n) (ds.take n)
  | _, _, 0, _ => by simpa using DpAll.nil
  | _, _, _ + 1, .nil => .nil
  | _, _, n + 1, .cons h a => .cons h (DpAll.take n a)
theorem DpAll.drop {K : PySem.W.Frag} {H : Hp} : ∀ {vs : List V} {ds : List PyData} (n : Nat), DpAll K H vs ds → DpAll K H (vs.drop n) (ds.drop n)
  | _, _, 0, h => by simpa using h
  | _, _, _ + 1, .nil => .nil
  | _, _, n + 1, .cons h a => DpAll.drop n a
theorem DpAll.reverse {K : PySem.W.Frag} {H : Hp} : ∀ {vs : List V} {ds : List PyData}, DpAll K H vs ds → DpAll K H vs.reverse ds.reverse
  | _, _, .nil => .nil
  | _, _, .cons h a => by
    rw [List.reverse_cons, List.reverse_cons]
    exact DpAll.append (DpAll.reverse a) (.cons h .nil)
theorem DpAll.dropLast {K : PySem.W.Frag} {H : Hp} {vs : List V} {ds : List PyData} (h : DpAll K H vs ds) : DpAll K H vs.dropLast ds.dropLast := by
  rw [List.dropLast_eq_take, List.dropLast_eq_take, h.length]
  exact h.take _
theorem DpAll.ints {K : PySem.W.Frag} {H : Hp} : ∀ {ns : List Int} {vs : List V}, DpAll K H vs (ns.map .int) → vs = ns.map V.int
  | [], _, .nil => rfl
  | _ :: _, _, .cons (.int _) a => by rw [DpAll.ints a]; rfl
theorem DpAll.of_ints {K : PySem.W.Frag} {H : Hp} : ∀ (ns : List Int), DpAll K H (ns.map V.int) (ns.map .int)
  | [] => .nil
  | _ :: r => .cons (.int _) (DpAll.of_ints r)
theorem DpAll.strs {K : PySem.W.Frag} {H : Hp} : ∀ {ns : List Str} {vs : List V}, DpAll K H vs (ns.map .str) → vs = ns.map V.str
  | [], _, .nil => rfl
  | _ :: _, _, .cons (.str _) a => by rw [DpAll.strs a]; rfl
theorem DpAll.of_strs {K : PySem.W.Frag} {H : Hp} : ∀ (ns : List Str), DpAll K H (ns.map V.str) (ns.map .str)
  | [] => .nil
  | _ :: r => .cons (.str _) (DpAll.of_strs r)

end L2
namespace Mh
open PySem L2
abbrev Ex := Ext
/-! ### kinds, contexts -/
structure Knd where
  ok : PySem.W.Frag → Hp → V → Prop
  up : ∀ {K : PySem.W.Frag} {H H' : Hp} {v : V}, Ex H H' → ok K H v → ok K H' v
/-- what a slot, a value is known to be: nothing; data; the def's own list at l; a new list (a value alone); a thing of a kind -/
inductive Kd where
  | un | dat (d : PyData) | own (l : Addr) (ds : List PyData) | new (ds : List PyData) | k (φ : Knd)
/-- the context: the written part; the lists that may change by calls (F) and what holds of them (J); the heap at the entry; whether lists that stood there are left out (fr); data that must stand (pn); what is wished of a raise -/
structure Ct where
  K : PySem.W.Frag
  F : Addr → Prop
  J : Hp → Prop
  H0 : Hp
  fr : Bool
  pn : List (V × PyData)
  E : XK
  Z : Value → List (Str × PyData) → Prop
def isL : Option HO → Prop
  | some (.lst _) => True
  | _ => False
def Own (ρ : List Kd) (a : Addr) : Prop := ∃ (i : Nat) (ds : List PyData), ρ[i]? = some (Kd.own a ds)
open Classical in
noncomputable def msk (C : Ct) (ρ : List Kd) (H : Hp) : Hp := fun a => if Own ρ a ∨ C.F a ∨ (C.fr = true ∧ C.H0 a ≠ none ∧ isL (H a)) then none else H a
open Classical in
noncomputable def fsh (H0 : Hp) (F : Addr → Prop) (H : Hp) : Hp := fun a => if F a ∨ (H0 a ≠ none ∧ isL (H a)) then none else H a
def del (l : Addr) (H : Hp) : Hp := fun a => if a = l then none else H a
theorem msk_of {C : Ct} {ρ : List Kd} {H : Hp} {a : Addr} {o : HO} (h : msk C ρ H a = some o) : H a = some o ∧ ¬ Own ρ a ∧ ¬ C.F a ∧ ¬ (C.fr = true ∧ C.H0 a ≠ none ∧ isL (H a)) := by
  unfold msk at h
  split at h
  · cases h
  · rename_i n
    exact ⟨h, fun z => n (.inl z), fun z => n (.inr (.inl z)), fun z => n (.inr (.inr z))⟩
theorem msk_mk {C : Ct} {ρ : List Kd} {H : Hp} {a : Addr} {o : HO} (h : H a = some o) (h1 : ¬ Own ρ a) (h2 : ¬ C.F a) (h3 : ¬ (C.fr = true ∧ C.H0 a ≠ none ∧ isL (H a))) : msk C ρ H a = some o := by
  unfold msk
  rw [if_neg (fun z => z.elim h1 (fun z => z.elim h2 h3))]
  exact h
theorem fsh_of {H0 : Hp} {F : Addr → Prop} {H : Hp} {a : Addr} {o : HO} (h : fsh H0 F H a = some o) : H a = some o ∧ ¬ F a ∧ ¬ (H0 a ≠ none ∧ isL (H a)) := by
  unfold fsh at h
  split at h
  · cases h
  · rename_i n
    exact ⟨h, fun z => n (.inl z), fun z => n (.inr z)⟩
theorem fsh_mk {H0 : Hp} {F : Addr → Prop} {H : Hp} {a : Addr} {o : HO} (h : H a = some o) (h2 : ¬ F a) (h3 : ¬ (H0 a ≠ none ∧ isL (H a))) : fsh H0 F H a = some o := by
  unfold fsh
  rw [if_neg (fun z => z.elim h2 h3)]
  exact h
theorem del_of {l : Addr} {H : Hp} {a : Addr} {o : HO} (h : del l H a = some o) : H a = some o ∧ a ≠ l := by
  unfold del at h
  split at h
  · cases h
  · exact ⟨h, by assumption⟩
theorem del_mk {l : Addr} {H : Hp} {a : Addr} {o : HO} (h : H a = some o) (n : a ≠ l) : del l H a = some o := by
  unfold del
  rw [if_neg n]
  exact h
theorem del_ex {l : Addr} {H H' : Hp} (e : Ex H H') : Ex (del l H) (del l H') := fun a o h => del_mk (e _ _ (del_of h).1) (del_of h).2
theorem del_le {l : Addr} {H : Hp} : Ex (del l H) H := fun a o h => (del_of h).1
theorem msk_le {C : Ct} {ρ : List Kd} {H : Hp} : Ex (msk C ρ H) H := fun _ _ h => (msk_of h).1
theorem fsh_le {H0 : Hp} {F : Addr → Prop} {H : Hp} : Ex (fsh H0 F H) H := fun _ _ h => (fsh_of h).1

def R (C : Ct) (H H' : Hp) : Prop := C.J H' ∧ ∀ a o, H a = some o → ¬ C.F a → H' a = some o
/-- fields of an exception -/
def FsOk (K : PySem.W.Frag) (H : Hp) : List (Str × V) → List (Str × PyData) → Prop
  | [], [] => True
  | (x, v) :: r, (y, d) :: s => x = y ∧ Dp K H v d ∧ FsOk K H r s
  | _, _ => False
structure Ct.Ok (C : Ct) : Prop where
  st : ∀ H H', C.J H → (∀ a, C.F a → H' a = H a) → C.J H'
  ls : ∀ H a, C.J H → C.F a → ∃ xs, H a = some (.lst xs)
  j0 : C.J C.H0
  hE : ∀ cls fs d H' fv, C.Z cls fs → R C C.H0 H' → C.H0 d = none → H' d = some (.xd fv) → FsOk C.K (fsh C.H0 C.F H') fv fs → C.E cls (some d) H'
def SlOk (K : PySem.W.Frag) (M H : Hp) : Option V → Kd → Prop
  | _, .un => True
  | o, .dat d => ∃ v, o = some v ∧ Dp K M v d
  | o, .own l ds => o = some (.ref l) ∧ ∃ vs, H l = some (.lst vs) ∧ DpAll K M vs ds
  | _, .new _ => False
  | o, .k φ => ∃ v, o = some v ∧ φ.ok K M v
structure Rep (C : Ct) (σ : L2.St) (H : Hp) (ρ : List Kd) : Prop where
  ok : C.Ok
  j : C.J H
  old : ∀ a o, C.H0 a = some o → ¬ C.F a → H a = some o
  len : σ.length = ρ.length
  nd : ∀ (i j : Nat) (l : Addr) (ds es : List PyData), ρ[i]? = some (Kd.own l ds) → ρ[j]? = some (Kd.own l es) → i = j
  fr : ∀ l, Own ρ l → C.H0 l = none
  sl : ∀ (i : Nat) k, ρ[i]? = some k → SlOk C.K (msk C ρ H) H (σ.getD i none) k
  pn : ∀ p ∈ C.pn, Dp C.K (msk C ρ H) p.1 p.2
section
variable {C : Ct} {σ : L2.St} {H H' H1 H2 Hs : Hp} {ρ : List Kd} {v : V} {k : Kd} {l : Addr} {d : PyData} {ds : List PyData}
theorem Ct.Ok.al (ok : C.Ok) (j : C.J H) {a : Addr} (f : C.F a) : H a ≠ none := fun z => by
  obtain ⟨xs, e⟩ := ok.ls H a j f
  rw [z] at e
  cases e
theorem Rep.nF (r : Rep C σ H ρ) (o : Own ρ l) : ¬ C.F l := fun f => r.ok.al r.ok.j0 f (r.fr l o)
theorem R.refl (j : C.J H) : R C H H := ⟨j, fun _ _ h _ => h⟩
theorem R.trans (a : R C H H1) (b : R C H1 H2) : R C H H2 := ⟨b.1, fun x o h n => b.2 x o (a.2 x o h n) n⟩
/-- what is free behind was free ahead -/
theorem R.back (ok : C.Ok) (r : R C H H') {a : Addr} (h : H' a = none) : H a = none := by
  cases e : H a with
  | none => rfl
  | some o =>
    by_cases f : C.F a
    · exact absurd h (ok.al r.1 f)
    · rw [r.2 a o e f] at h
      cases h
theorem msk_up (r : R C H H') : Ex (msk C ρ H) (msk C ρ H') := fun a o h => by
  obtain ⟨h1, h2, h3, h4⟩ := msk_of h
  have e := r.2 a o h1 h3
  exact msk_mk e h2 h3 (by rw [e, ← h1]; exact h4)
theorem Rep.up (r : Rep C σ H ρ) (q : R C H H') : Rep C σ H' ρ where
  ok := r.ok
  j := q.1
  old := fun a o h n => q.2 a o (r.old a o h n) n
  len := r.len
  nd := r.nd
  fr := r.fr
  sl := fun i k e => by
    have h := r.sl i k e
    have m := msk_up (ρ := ρ) q
    cases k with
    | un => trivial
    | dat d => exact ⟨h.choose, h.choose_spec.1, Dp.ex m h.choose_spec.2⟩
    | own l ds =>
      obtain ⟨h1, vs, h2, h3⟩ := h
      exact ⟨h1, vs, q.2 _ _ h2 (r.nF ⟨i, ds, e⟩), DpAll.ex m h3⟩
    | new ds => exact h
    | k φ => exact ⟨h.choose, h.choose_spec.1, φ.up m h.choose_spec.2⟩
  pn := fun p hp => Dp.ex (msk_up q) (r.pn p hp)
/-- a value that was made between Hs and H -/
def VOk (C : Ct) (ρ : List Kd) (Hs H : Hp) (v : V) : Kd → Prop
  | .un => True
  | .dat d => Dp C.K (msk C ρ H) v d
  | .own l ds => v = .ref l ∧ Own ρ l ∧ ∃ vs, H l = some (.lst vs) ∧ DpAll C.K (msk C ρ H) vs ds
  | .new ds => ∃ l vs, v = .ref l ∧ Hs l = none ∧ H l = some (.lst vs) ∧ DpAll C.K (del l (msk C ρ H)) vs ds
  | .k φ => φ.ok C.K (msk C ρ H) v
theorem VOk.up (rp : Rep C σ Hs ρ) (h : VOk C ρ Hs H v k) (q : R C H H') : VOk C ρ Hs H' v k := by
  have m := msk_up (ρ := ρ) q
  cases k with
  | un => trivial
  | dat d => exact Dp.ex m h
  | own l ds =>
    obtain ⟨h1, h2, vs, h3, h4⟩ := h
    exact ⟨h1, h2, vs, q.2 _ _ h3 (rp.nF h2), DpAll.ex m h4⟩
  | new ds =>
    obtain ⟨l, vs, h1, h2, h3, h4⟩ := h
    exact ⟨l, vs, h1, h2, q.2 _ _ h3 (fun f => rp.ok.al rp.j f h2), DpAll.ex (del_ex m) h4⟩
  | k φ => exact φ.up m h
theorem VOk.back (ok : C.Ok) (h : VOk C ρ H1 H v k) (q : R C Hs H1) : VOk C ρ Hs H v k := by
  cases k with
  | un => trivial
  | dat d => exact h
  | own l ds => exact h
  | new ds =>
    obtain ⟨l, vs, h1, h2, h3, h4⟩ := h
    exact ⟨l, vs, h1, q.back ok h2, h3, h4⟩
  | k φ => exact h
/-- a new list may be taken as data -/
theorem VOk.frz (rp : Rep C σ Hs ρ) (q : R C Hs H) (h : VOk C ρ Hs H v (.new ds)) : Dp C.K (msk C ρ H) v (.list ds) := by
  obtain ⟨l, vs, rfl, h2, h3, h4⟩ := h
  have hl : msk C ρ H l = some (.lst vs) := msk_mk h3 (fun ⟨i, es, e⟩ => by
      obtain ⟨_, ws, hw, _⟩ := rp.sl i _ e
      rw [h2] at hw
      cases hw) (fun f => rp.ok.al rp.j f h2) (fun z => by
      cases e : C.H0 l with
      | none => exact z.2.1 e
      | some o =>
        by_cases f : C.F l
        · exact rp.ok.al rp.j f h2
        · rw [rp.old l o e f] at h2
          cases h2)
  exact .lst (.inl (.inl hl)) (DpAll.ex del_le h4)

/-! ### stores -/
def plain : Kd → Bool
  | .dat _ => true
  | .k _ => true
  | _ => false
theorem own_set {i : Nat} {k : Kd} {a : Addr} (h : Own (ρ.set i k) a) : (∃ ds, k = .own a ds) ∨ Own ρ a := by
  obtain ⟨j, ds, e⟩ := h
  by_cases hj : i = j
  · subst hj
    by_cases hl : i < ρ.length
    · rw [List.getElem?_set_self hl] at e
      exact .inl ⟨ds, Option.some.inj e⟩
    · rw [List.getElem?_eq_none (by simpa using hl)] at e
      cases e
  · rw [List.getElem?_set_ne hj] at e
    exact .inr ⟨j, ds, e⟩
theorem own_plain {i : Nat} {k : Kd} {a : Addr} (hk : plain k = true) (h : Own (ρ.set i k) a) : Own ρ a := by
  rcases own_set h with ⟨ds, e⟩ | h
  · subst e
    cases hk
  · exact h
theorem msk_plain {i : Nat} (hk : plain k = true) : Ex (msk C ρ H) (msk C (ρ.set i k) H) := fun a o h => by
  obtain ⟨h1, h2, h3, h4⟩ := msk_of h
  exact msk_mk h1 (fun z => h2 (own_plain hk z)) h3 h4
theorem getD_set_ne {i j : Nat} {x : Option V} (h : i ≠ j) : (σ.set i x).getD j none = σ.getD j none := by
  rw [List.getD_eq_getElem?_getD, List.getD_eq_getElem?_getD, List.getElem?_set_ne h]
theorem getD_set_eq {i : Nat} {x : Option V} (h : i < σ.length) : (σ.set i x).getD i none = x := by
  rw [List.getD_eq_getElem?_getD, List.getElem?_set_self h]
  rfl
theorem SlOk.ex {M M' : Hp} {K : PySem.W.Frag} {o : Option V} {k : Kd} (e : Ex M M') (hl : ∀ l ds, k = .own l ds → H' l = H l) (h : SlOk K M H o k) : SlOk K M' H' o k := by
  cases k with
  | un => trivial
  | dat d => exact ⟨h.choose, h.choose_spec.1, Dp.ex e h.choose_spec.2⟩
  | own l ds =>
    obtain ⟨h1, vs, h2, h3⟩ := h
    exact ⟨h1, vs, by rw [hl l ds rfl]; exact h2, DpAll.ex e h3⟩
  | new ds => exact h
  | k φ => exact ⟨h.choose, h.choose_spec.1, φ.up e h.choose_spec.2⟩
theorem Rep.set_plain {i : Nat} (r : Rep C σ H ρ) (hk : plain k = true) (h : VOk C ρ Hs H v k) : Rep C (σ.set i (some v)) H (ρ.set i k) where
  ok := r.ok
  j := r.j
  old := r.old
  len := by rw [List.length_set, List.length_set, r.len]
  nd := fun a b l ds es ha hb => by
    have q : ∀ {a : Nat} {ds}, (ρ.set i k)[a]? = some (Kd.own l ds) → ρ[a]? = some (Kd.own l ds) := fun {a ds} ha => by
      by_cases hj : i = a
      · subst hj
        by_cases hl : i < ρ.length
        · rw [List.getElem?_set_self hl] at ha
          rw [Option.some.inj ha] at hk
          cases hk
        · rw [List.getElem?_eq_none (by simpa using hl)] at ha
          cases ha
      · rw [List.getElem?_set_ne hj] at ha
        exact ha
    exact r.nd a b l ds es (q ha) (q hb)
  fr := fun l o => r.fr l (own_plain hk o)
  sl := fun j k' e => by
    by_cases hj : i = j
    · subst hj
      by_cases hl : i < ρ.length
      · rw [List.getElem?_set_self hl] at e
        obtain rfl := Option.some.inj e
        rw [getD_set_eq (by rw [r.len]; exact hl)]
        cases k with
        | dat d => exact ⟨v, rfl, Dp.ex (msk_plain hk) h⟩
        | k φ => exact ⟨v, rfl, φ.up (msk_plain hk) h⟩
        | un => cases hk
        | own _ _ => cases hk
        | new _ => cases hk
      · rw [List.getElem?_eq_none (by simpa using hl)] at e
        cases e
    · rw [List.getElem?_set_ne hj] at e
      rw [getD_set_ne hj]
      exact (r.sl j k' e).ex (msk_plain hk) fun _ _ _ => rfl
  pn := fun p hp => Dp.ex (msk_plain hk) (r.pn p hp)
theorem Rep.own_at (r : Rep C σ H ρ) {i : Nat} {l : Addr} {ds : List PyData} (e : ρ[i]? = some (Kd.own l ds)) : ∃ vs, H l = some (.lst vs) ∧ DpAll C.K (msk C ρ H) vs ds := by
  obtain ⟨_, h⟩ := r.sl i _ e
  exact h
theorem Rep.own_there (r : Rep C σ H ρ) {l : Addr} (o : Own ρ l) : ∃ vs, H l = some (.lst vs) := by
  obtain ⟨i, ds, e⟩ := o
  obtain ⟨vs, h, _⟩ := r.own_at e
  exact ⟨vs, h⟩
/-- what stood ahead, behind a new list that is the def's own -/
theorem msk_new {i : Nat} (q : R C Hs H) (hl : Hs l = none) : Ex (msk C ρ Hs) (msk C (ρ.set i (.own l ds)) H) := fun a o h => by
  obtain ⟨h1, h2, h3, h4⟩ := msk_of h
  have e := q.2 a o h1 h3
  refine msk_mk e (fun z => ?_) h3 (by rw [e, ← h1]; exact h4)
  rcases own_set z with ⟨es, z⟩ | z
  · injection z with z1 _
    rw [z1, h1] at hl
    cases hl
  · exact h2 z
theorem del_own {i : Nat} : Ex (del l (msk C ρ H)) (msk C (ρ.set i (.own l ds)) H) := fun a o h => by
  obtain ⟨h0, hn⟩ := del_of h
  obtain ⟨h1, h2, h3, h4⟩ := msk_of h0
  refine msk_mk h1 (fun z => ?_) h3 h4
  rcases own_set z with ⟨es, z⟩ | z
  · injection z with z1 _
    exact hn z1.symm
  · exact h2 z
theorem Rep.h0 (r : Rep C σ H ρ) (hl : H l = none) : C.H0 l = none := by
  cases e : C.H0 l with
  | none => rfl
  | some o =>
    by_cases f : C.F l
    · exact absurd hl (r.ok.al r.j f)
    · rw [r.old l o e f] at hl
      cases hl
theorem Rep.set_new {i : Nat} {vs : List V} (r : Rep C σ Hs ρ) (q : R C Hs H) (hl : Hs l = none) (hv : H l = some (.lst vs)) (ha : DpAll C.K (del l (msk C ρ H)) vs ds) :
    Rep C (σ.set i (some (.ref l))) H (ρ.set i (.own l ds)) where
  ok := r.ok
  j := q.1
  old := fun a o h n => q.2 a o (r.old a o h n) n
  len := by rw [List.length_set, List.length_set, r.len]
  nd := fun a b l' ds' es ha hb => by
    have nol : ∀ {a : Nat} {ds'}, ρ[a]? = some (Kd.own l ds') → False := fun {a ds'} e => by
      obtain ⟨ws, hw, _⟩ := r.own_at e
      rw [hl] at hw
      cases hw
    have q2 : ∀ {a : Nat} {ds'}, (ρ.set i (.own l ds))[a]? = some (Kd.own l' ds') → (a = i ∧ l' = l) ∨ (l' ≠ l ∧ ρ[a]? = some (Kd.own l' ds')) := fun {a ds'} ha => by
      by_cases hj : i = a
      · subst hj
        by_cases hl2 : i < ρ.length
        · rw [List.getElem?_set_self hl2] at ha
          have e := Option.some.inj ha
          injection e with e1 e2
          exact .inl ⟨rfl, e1.symm⟩
        · rw [List.getElem?_eq_none (by simpa using hl2)] at ha
          cases ha
      · have hx : ρ[a]? = some (Kd.own l' ds') := by rw [← List.getElem?_set_ne hj]; exact ha
        exact .inr ⟨fun z => nol (z ▸ hx), hx⟩
    rcases q2 ha with ⟨e1, e2⟩ | ⟨n1, e1⟩
    · rcases q2 hb with ⟨e3, e4⟩ | ⟨n3, e3⟩
      · rw [e1, e3]
      · exact absurd e2 n3
    · rcases q2 hb with ⟨e3, e4⟩ | ⟨n3, e3⟩
      · exact absurd e4 n1
      · exact r.nd a b l' ds' es e1 e3
  fr := fun l' o => by
    rcases own_set o with ⟨es, z⟩ | z
    · injection z with z1 _
      rw [← z1]
      exact r.h0 hl
    · exact r.fr l' z
  sl := fun j k' e => by
    by_cases hj : i = j
    · subst hj
      by_cases hl2 : i < ρ.length
      · rw [List.getElem?_set_self hl2] at e
        obtain rfl := Option.some.inj e
        rw [getD_set_eq (by rw [r.len]; exact hl2)]
        exact ⟨rfl, vs, hv, DpAll.ex del_own ha⟩
      · rw [List.getElem?_eq_none (by simpa using hl2)] at e
        cases e
    · rw [List.getElem?_set_ne hj] at e
      rw [getD_set_ne hj]
      have h := r.sl j k' e
      cases k' with
      | un => trivial
      | dat d => exact ⟨h.choose, h.choose_spec.1, Dp.ex (msk_new q hl) h.choose_spec.2⟩
      | own l' ds' =>
        obtain ⟨h1, ws, h2, h3⟩ := h
        exact ⟨h1, ws, q.2 _ _ h2 (r.nF ⟨j, ds', e⟩), DpAll.ex (msk_new q hl) h3⟩
      | new ds => exact h
      | k φ => exact ⟨h.choose, h.choose_spec.1, φ.up (msk_new q hl) h.choose_spec.2⟩
  pn := fun p hp => Dp.ex (msk_new q hl) (r.pn p hp)
/-- an own list is written -/
theorem own_upd {i : Nat} {es : List PyData} {a : Addr} (e : ρ[i]? = some (Kd.own l ds)) (h : Own (ρ.set i (.own l es)) a) : Own ρ a := by
  rcases own_set h with ⟨fs, z⟩ | z
  · injection z with z1 _
    rw [← z1]
    exact ⟨i, ds, e⟩
  · exact z
theorem msk_upd {i : Nat} {es : List PyData} {o : HO} (e : ρ[i]? = some (Kd.own l ds)) : Ex (msk C ρ H) (msk C (ρ.set i (.own l es)) (upd H l o)) := fun a u h => by
  obtain ⟨h1, h2, h3, h4⟩ := msk_of h
  have hn : a ≠ l := fun z => h2 (by rw [z]; exact ⟨i, ds, e⟩)
  have e2 : upd H l o a = some u := by rw [upd_ne hn]; exact h1
  exact msk_mk e2 (fun z => h2 (own_upd e z)) h3 (by rw [e2, ← h1]; exact h4)
theorem Rep.wr {i : Nat} {vs : List V} {es : List PyData} (r : Rep C σ H ρ) (e : ρ[i]? = some (Kd.own l ds)) (ha : DpAll C.K (msk C ρ H) vs es) :
    Rep C σ (upd H l (.lst vs)) (ρ.set i (.own l es)) where
  ok := r.ok
  j := r.ok.st _ _ r.j fun a f => upd_ne fun z => r.nF ⟨i, ds, e⟩ (z ▸ f)
  old := fun a o h n => by
    rw [upd_ne fun z => by
      rw [z, r.fr l ⟨i, ds, e⟩] at h
      cases h]
    exact r.old a o h n
  len := by rw [List.length_set, r.len]
  nd := fun a b l' ds' es' ha hb => by
    have q2 : ∀ {a : Nat} {ds'}, (ρ.set i (.own l es))[a]? = some (Kd.own l' ds') → ∃ ds2, ρ[a]? = some (Kd.own l' ds2) := fun {a ds'} ha => by
      by_cases hj : i = a
      · subst hj
        have hl2 : i < ρ.length := (List.getElem?_eq_some_iff.mp e).1
        rw [List.getElem?_set_self hl2] at ha
        have z := Option.some.inj ha
        injection z with z1 z2
        subst z1
        exact ⟨ds, e⟩
      · rw [List.getElem?_set_ne hj] at ha
        exact ⟨ds', ha⟩
    obtain ⟨d1, h1⟩ := q2 ha
    obtain ⟨d2, h2⟩ := q2 hb
    exact r.nd a b l' d1 d2 h1 h2
  fr := fun l' o => r.fr l' (own_upd e o)
  sl := fun j k' ej => by
    by_cases hj : i = j
    · subst hj
      have hl2 : i < ρ.length := (List.getElem?_eq_some_iff.mp e).1
      rw [List.getElem?_set_self hl2] at ej
      obtain rfl := Option.some.inj ej
      obtain ⟨h1, _⟩ := r.sl i _ e
      exact ⟨h1, vs, upd_same, DpAll.ex (msk_upd e) ha⟩
    · rw [List.getElem?_set_ne hj] at ej
      refine (r.sl j k' ej).ex (msk_upd e) fun l' ds' z => upd_ne fun z2 => ?_
      subst z
      subst z2
      exact hj (r.nd i j _ _ _ e ej)
  pn := fun p hp => Dp.ex (msk_upd e) (r.pn p hp)
/-- a new object -/
theorem R.new {p : Addr} {o : HO} (ok : C.Ok) (j : C.J H) (hp : H p = none) : R C H (upd H p o) :=
  ⟨ok.st _ _ j fun a f => upd_ne fun z => ok.al j f (z ▸ hp), fun a u h _ => by rw [upd_ne (ne_of_none h hp)]; exact h⟩
end
end Mh
namespace Mh
open PySem L2
/-! ### what an expression, a test, an argument list comes to -/
def EB (C : Ct) (te : TE) (ρ : List Kd) (S : Kd → Prop) : Prop :=
  ∀ (σ : L2.St) (H : Hp), Rep C σ H ρ → ∀ Q : VK, (∀ k v H', S k → R C H H' → VOk C ρ H H' v k → Q v H') → te σ H Q
abbrev E1 (C : Ct) (te : TE) (ρ : List Kd) (k : Kd) : Prop := EB C te ρ fun z => z = k
def ET (C : Ct) (tt : TT) (ρ : List Kd) (S : Bool → Prop) : Prop :=
  ∀ (σ : L2.St) (H : Hp), Rep C σ H ρ → ∀ Q : Bool → Hp → Prop, (∀ b H', S b → R C H H' → Q b H') → tt σ H Q
abbrev T1 (C : Ct) (tt : TT) (ρ : List Kd) (b : Bool) : Prop := ET C tt ρ fun z => z = b
inductive VsOk (C : Ct) (ρ : List Kd) (Hs H : Hp) : List V → List Kd → Prop where
  | nil : VsOk C ρ Hs H [] []
  | cons {v : V} {k : Kd} {vs : List V} {ks : List Kd} : VOk C ρ Hs H v k → VsOk C ρ Hs H vs ks → VsOk C ρ Hs H (v :: vs) (k :: ks)
def EA (C : Ct) (ta : TA) (ρ : List Kd) (S : List Kd → Prop) : Prop :=
  ∀ (σ : L2.St) (H : Hp), Rep C σ H ρ → ∀ Q : List V → Hp → Prop, (∀ ks vs H', S ks → R C H H' → VsOk C ρ H H' vs ks → Q vs H') → ta σ H Q
abbrev A1 (C : Ct) (ta : TA) (ρ : List Kd) (ks : List Kd) : Prop := EA C ta ρ fun z => z = ks
section
variable {C : Ct} {σ : L2.St} {H H' H1 H2 Hs : Hp} {ρ : List Kd} {v : V} {k x y z : Kd} {l : Addr} {d e : PyData} {ds es : List PyData} {ta tb te : TE} {tt tu : TT} {i : Nat} {S S1 S2 : Kd → Prop}
theorem EB.imp (h : EB C te ρ S1) (s : ∀ k, S1 k → S2 k) : EB C te ρ S2 := fun σ H r Q q => h σ H r Q fun k v H' a b c => q k v H' (s k a) b c
theorem E1.to (h : E1 C te ρ k) (s : S k) : EB C te ρ S := h.imp fun _ e => e ▸ s
theorem E1.is (h : E1 C te ρ x) (e : x = y) : E1 C te ρ y := e ▸ h
theorem ET.imp {S1 S2 : Bool → Prop} (h : ET C tt ρ S1) (s : ∀ k, S1 k → S2 k) : ET C tt ρ S2 := fun σ H r Q q => h σ H r Q fun b H' a c => q b H' (s b a) c
theorem T1.is {a b : Bool} (h : T1 C tt ρ a) (e : a = b) : T1 C tt ρ b := e ▸ h
def rdK : Kd → Bool
  | .dat _ => true
  | .own _ _ => true
  | .k _ => true
  | _ => false
theorem Rep.var (r : Rep C σ H ρ) (h : ρ[i]? = some k) (hk : rdK k = true) : ∃ v, σ[i]? = some (some v) ∧ VOk C ρ H H v k := by
  have q := r.sl i k h
  have hl : i < σ.length := by
    rw [r.len]
    exact (List.getElem?_eq_some_iff.mp h).1
  have g : ∀ v, σ.getD i none = some v → σ[i]? = some (some v) := fun v e => by
    rw [List.getD_eq_getElem?_getD, List.getElem?_eq_getElem hl] at e
    rw [List.getElem?_eq_getElem hl]
    exact congrArg some e
  cases k with
  | un => cases hk
  | new _ => cases hk
  | dat d =>
    obtain ⟨v, e, p⟩ := q
    exact ⟨v, g v e, p⟩
  | own l ds =>
    obtain ⟨e, vs, p1, p2⟩ := q
    exact ⟨_, g _ e, rfl, ⟨i, ds, h⟩, vs, p1, p2⟩
  | k φ =>
    obtain ⟨v, e, p⟩ := q
    exact ⟨v, g v e, p⟩
theorem e_var (h : ρ[i]? = some k) (hk : rdK k = true := by rfl) : E1 C (tVar i) ρ k := fun σ H r Q q => by
  obtain ⟨v, e, o⟩ := r.var h hk
  exact ⟨v, e, q k v H rfl (R.refl r.j) o⟩
theorem e_c (h : ∀ K H, Dp K H v d) : E1 C (tC v) ρ (.dat d) := fun σ H r Q q => q _ v H rfl (R.refl r.j) (h _ _)
theorem e_int {i : Int} : E1 C (tC (.int i)) ρ (.dat (.int i)) := e_c fun _ _ => .int i
theorem e_str {x : Str} : E1 C (tC (.str x)) ρ (.dat (.str x)) := e_c fun _ _ => .str x
theorem e_bl {b : Bool} : E1 C (tC (.bl b)) ρ (.dat (.bool b)) := e_c fun _ _ => .bl b
theorem e_non : E1 C (tC .non) ρ (.dat .none) := e_c fun _ _ => .non
/-- a new list taken as data -/
theorem e_frz (h : E1 C te ρ (.new ds)) : E1 C te ρ (.dat (.list ds)) := fun σ H r Q q => h σ H r Q fun k v H' s a b => by
  subst s
  exact q _ v H' rfl a (b.frz r a)
def OpK (C : Ct) (ρ : List Kd) (r : R2) (x y : Kd) (S : Kd → Prop) : Prop :=
  ∀ (σ : L2.St) (Hs H : Hp) (v w : V), Rep C σ Hs ρ → R C Hs H → Rep C σ H ρ → VOk C ρ Hs H v x → VOk C ρ Hs H w y → ∀ Q : VK, (∀ k u H', S k → R C H H' → VOk C ρ H H' u k → Q u H') → r v w H Q
theorem OpK.imp {r : R2} (h : OpK C ρ r x y S1) (s : ∀ k, S1 k → S2 k) : OpK C ρ r x y S2 := fun σ Hs H v w a b c d e Q q => h σ Hs H v w a b c d e Q fun k u H' a b c => q k u H' (s k a) b c
theorem e_op {r : R2} (ha : EB C ta ρ S1) (hb : EB C tb ρ S2) (hr : ∀ x y, S1 x → S2 y → OpK C ρ r x y S) : EB C (tOp r ta tb) ρ S := fun σ H rp Q q =>
  ha σ H rp _ fun x v H1 s1 r1 o1 => hb σ H1 (rp.up r1) _ fun y w H2 s2 r2 o2 =>
    hr x y s1 s2 σ H H2 v w rp (r1.trans r2) (rp.up (r1.trans r2)) (o1.up rp r2) (o2.back rp.ok r1) Q fun k u H3 s3 r3 o3 => q k u H3 s3 ((r1.trans r2).trans r3) (o3.back rp.ok (r1.trans r2))
theorem e_op1 {r : R2} (ha : E1 C ta ρ x) (hb : E1 C tb ρ y) (hr : OpK C ρ r x y fun a => a = z) : E1 C (tOp r ta tb) ρ z := e_op ha hb fun a b e1 e2 => by
  subst e1 e2
  exact hr
theorem OpK.inl {r r' : R2} (h : OpK C ρ r x y S) : OpK C ρ (fun a b H Q => r a b H Q ∨ r' a b H Q) x y S := fun σ Hs H v w a b c d e Q q => .inl (h σ Hs H v w a b c d e Q q)
theorem OpK.inr {r r' : R2} (h : OpK C ρ r' x y S) : OpK C ρ (fun a b H Q => r a b H Q ∨ r' a b H Q) x y S := fun σ Hs H v w a b c d e Q q => .inr (h σ Hs H v w a b c d e Q q)
theorem dp_int {K : PySem.W.Frag} {H : Hp} {v : V} {i : Int} (h : Dp K H v (.int i)) : v = .int i := by cases h; rfl
theorem dp_str {K : PySem.W.Frag} {H : Hp} {v : V} {i : Str} (h : Dp K H v (.str i)) : v = .str i := by cases h; rfl
theorem dp_bl {K : PySem.W.Frag} {H : Hp} {v : V} {i : Bool} (h : Dp K H v (.bool i)) : v = .bl i := by cases h; rfl
theorem dp_non {K : PySem.W.Frag} {H : Hp} {v : V} (h : Dp K H v .none) : v = .non := by cases h; rfl
theorem dp_tup {K : PySem.W.Frag} {H : Hp} {v : V} (h : Dp K H v (.tuple ds)) : ∃ a xs, v = .ref a ∧ SqT K H a xs ∧ DpAll K H xs ds := by
  cases h with
  | tup h a => exact ⟨_, _, rfl, h, a⟩
theorem dp_lst {K : PySem.W.Frag} {H : Hp} {v : V} (h : Dp K H v (.list ds)) : ∃ a xs, v = .ref a ∧ SqL K H a xs ∧ DpAll K H xs ds := by
  cases h with
  | lst h a => exact ⟨_, _, rfl, h, a⟩
/-- no change of the heap -/
theorem opk_val {r : R2} {v w u : V} (h : ∀ H (Q : VK), Q u H → r v w H Q) (hx : ∀ K H v', Dp K H v' d → v' = v) (hy : ∀ K H v', Dp K H v' e → v' = w) {f : PyData} (hz : ∀ K H, Dp K H u f) : OpK C ρ r (.dat d) (.dat e) fun a => a = .dat f :=
  fun σ Hs H v' w' _ q rp o1 o2 Q k => by
    obtain rfl := hx _ _ _ o1
    obtain rfl := hy _ _ _ o2
    exact h H Q (k _ u H rfl (R.refl q.1) (hz _ _))
theorem opk_i0 {g : Int → Int → V} {i j : Int} {f : PyData} (hz : ∀ K H, Dp K H (g i j) f) : OpK C ρ (rI0 g) (.dat (.int i)) (.dat (.int j)) fun a => a = .dat f :=
  opk_val (v := .int i) (w := .int j) (u := g i j) (fun H Q q => ⟨i, j, rfl, rfl, q⟩) (fun _ _ _ h => dp_int h) (fun _ _ _ h => dp_int h) hz
theorem opk_i {P : Int → Int → Prop} {g : Int → Int → V} {i j : Int} {f : PyData} (hc : P i j) (hz : ∀ K H, Dp K H (g i j) f) : OpK C ρ (rI P g) (.dat (.int i)) (.dat (.int j)) fun a => a = .dat f :=
  opk_val (v := .int i) (w := .int j) (u := g i j) (fun H Q q => ⟨i, j, rfl, rfl, hc, q⟩) (fun _ _ _ h => dp_int h) (fun _ _ _ h => dp_int h) hz
/-! ### tuples, lists made -/
theorem Rep.newT {p : Addr} {xs : List V} (r : Rep C σ H ρ) (hp : H p = none) (ha : DpAll C.K (msk C ρ H) xs ds) : R C H (upd H p (.tup xs)) ∧ Dp C.K (msk C ρ (upd H p (.tup xs))) (.ref p) (.tuple ds) := by
  have q := R.new (o := .tup xs) r.ok r.j hp
  refine ⟨q, .tup (.inl (.inl (msk_mk upd_same (fun ⟨i, es, e⟩ => ?_) (fun f => r.ok.al r.j f hp) fun z => ?_))) (DpAll.ex (msk_up q) ha)⟩
  · obtain ⟨vs, h, _⟩ := r.own_at e
    rw [hp] at h
    cases h
  · have h := z.2.2
    rw [upd_same] at h
    exact h
theorem Rep.newL {p : Addr} {xs : List V} (r : Rep C σ H ρ) (hp : H p = none) (ha : DpAll C.K (msk C ρ H) xs ds) : R C H (upd H p (.lst xs)) ∧ VOk C ρ H (upd H p (.lst xs)) (.ref p) (.new ds) := by
  have q := R.new (o := .lst xs) r.ok r.j hp
  refine ⟨q, p, xs, rfl, hp, upd_same, DpAll.ex (fun a o h => del_mk (msk_up q a o h) fun z => ?_) ha⟩
  have e := (msk_of h).1
  rw [z, hp] at e
  cases e
def datL : List Kd → Option (List PyData)
  | [] => some []
  | .dat d :: r => (datL r).map (d :: ·)
  | _ => none
theorem VsOk.dat : ∀ {vs : List V} {ks : List Kd} {ds : List PyData}, VsOk C ρ Hs H vs ks → datL ks = some ds → DpAll C.K (msk C ρ H) vs ds
  | _, _, _, .nil, e => by
    cases e
    exact .nil
  | _, _, _, .cons (k := k) (ks := ks) h a, e => by
    cases k with
    | dat d =>
      cases q : datL ks with
      | none => simp [datL, q] at e
      | some r =>
        simp [datL, q] at e
        subst e
        exact .cons h (VsOk.dat a q)
    | _ => simp [datL] at e
theorem VsOk.up : ∀ {vs : List V} {ks : List Kd}, Rep C σ Hs ρ → VsOk C ρ Hs H vs ks → R C H H' → VsOk C ρ Hs H' vs ks
  | _, _, _, .nil, _ => .nil
  | _, _, r, .cons h a, q => .cons (h.up r q) (VsOk.up r a q)
theorem VsOk.back : ∀ {vs : List V} {ks : List Kd}, C.Ok → VsOk C ρ H1 H vs ks → R C Hs H1 → VsOk C ρ Hs H vs ks
  | _, _, _, .nil, _ => .nil
  | _, _, r, .cons h a, q => .cons (h.back r q) (VsOk.back r a q)
theorem a_nil : A1 C tNil ρ [] := fun σ H r Q q => q _ [] H rfl (R.refl r.j) .nil
theorem a_consS {t : TA} {P1 P : List Kd → Prop} (h : EB C te ρ S1) (hr : EA C t ρ P1) (s : ∀ k ks, S1 k → P1 ks → P (k :: ks)) : EA C (tCons te t) ρ P := fun σ H rp Q q =>
  h σ H rp _ fun k v H1 s1 r1 o1 => hr σ H1 (rp.up r1) _ fun ks vs H2 s2 r2 o2 => q _ _ H2 (s k ks s1 s2) (r1.trans r2) (.cons (o1.up rp r2) (o2.back rp.ok r1))
theorem a_cons {t : TA} {ks : List Kd} (h : E1 C te ρ k) (hr : A1 C t ρ ks) : A1 C (tCons te t) ρ (k :: ks) := a_consS h hr fun _ _ a b => by rw [a, b]
theorem e_tupS {t : TA} {P : List Kd → Prop} (h : EA C t ρ P) (s : ∀ ks, P ks → ∃ ds, datL ks = some ds ∧ ds.length ≤ sizeLine ∧ S (.dat (.tuple ds))) : EB C (tTup t) ρ S := fun σ H rp Q q =>
  h σ H rp _ fun ks vs H1 s1 r1 o1 => by
    obtain ⟨ds, e, hz, s2⟩ := s ks s1
    have ha := o1.dat e
    refine ⟨by rw [ha.length]; exact hz, fun p hp => ?_⟩
    obtain ⟨q1, q2⟩ := (rp.up r1).newT hp ha
    exact q _ _ _ s2 (r1.trans q1) q2
theorem e_tup {t : TA} {ks : List Kd} (h : A1 C t ρ ks) (e : datL ks = some ds) (hz : ds.length ≤ sizeLine := by first | decide | (dsimp only [List.length]; decide)) : E1 C (tTup t) ρ (.dat (.tuple ds)) := e_tupS h fun ks' e' => ⟨ds, by rw [e', e], hz, rfl⟩
theorem e_lstS {t : TA} {P : List Kd → Prop} (h : EA C t ρ P) (s : ∀ ks, P ks → ∃ ds, datL ks = some ds ∧ ds.length ≤ sizeLine ∧ S (.new ds)) : EB C (tLst t) ρ S := fun σ H rp Q q =>
  h σ H rp _ fun ks vs H1 s1 r1 o1 => by
    obtain ⟨ds, e, hz, s2⟩ := s ks s1
    have ha := o1.dat e
    refine ⟨by rw [ha.length]; exact hz, fun p hp => ?_⟩
    obtain ⟨q1, q2⟩ := (rp.up r1).newL hp ha
    exact q _ _ _ s2 (r1.trans q1) (q2.back rp.ok r1)
theorem e_lst {t : TA} {ks : List Kd} (h : A1 C t ρ ks) (e : datL ks = some ds) (hz : ds.length ≤ sizeLine := by first | decide | (dsimp only [List.length]; decide)) : E1 C (tLst t) ρ (.new ds) := e_lstS h fun ks' e' => ⟨ds, by rw [e', e], hz, rfl⟩
/-! ### what is read as a sequence -/
def seqK : Kd → Option (List PyData)
  | .dat (.list ds) => some ds
  | .dat (.tuple ds) => some ds
  | .own _ ds => some ds
  | .new ds => some ds
  | _ => none
theorem VOk.seq (h : VOk C ρ Hs H v k) (e : seqK k = some ds) : ∃ a xs, v = .ref a ∧ (SqL C.K H a xs ∨ SqT C.K H a xs) ∧ DpAll C.K (msk C ρ H) xs ds := by
  cases k with
  | dat d =>
    cases d with
    | list es =>
      cases e
      obtain ⟨a, xs, rfl, h1, h2⟩ := dp_lst h
      exact ⟨a, xs, rfl, .inl (Ext.l msk_le h1), h2⟩
    | tuple es =>
      cases e
      obtain ⟨a, xs, rfl, h1, h2⟩ := dp_tup h
      exact ⟨a, xs, rfl, .inr (Ext.t msk_le h1), h2⟩
    | _ => cases e
  | own l es =>
    cases e
    obtain ⟨rfl, _, vs, h1, h2⟩ := h
    exact ⟨l, vs, rfl, .inl (.inl (.inl h1)), h2⟩
  | new es =>
    cases e
    obtain ⟨l, vs, rfl, _, h1, h2⟩ := h
    exact ⟨l, vs, rfl, .inl (.inl (.inl h1)), DpAll.ex del_le h2⟩
  | _ => cases e
/-- a list that stands in the heap by itself (made here, or the def's own) -/
def lstK : Kd → Option (List PyData)
  | .own _ ds => some ds
  | .new ds => some ds
  | _ => none
theorem VOk.lst (h : VOk C ρ Hs H v k) (e : lstK k = some ds) : ∃ a xs, v = .ref a ∧ H a = some (.lst xs) ∧ DpAll C.K (msk C ρ H) xs ds := by
  cases k with
  | own l es =>
    cases e
    obtain ⟨rfl, _, vs, h1, h2⟩ := h
    exact ⟨l, vs, rfl, h1, h2⟩
  | new es =>
    cases e
    obtain ⟨l, vs, rfl, _, h1, h2⟩ := h
    exact ⟨l, vs, rfl, h1, DpAll.ex del_le h2⟩
  | _ => cases e
/-- a call of a built-in -/
def CbK (C : Ct) (ρ : List Kd) (r : List V → Hp → VK → Prop) (ks : List Kd) (S : Kd → Prop) : Prop :=
  ∀ (σ : L2.St) (Hs H : Hp) (vs : List V), Rep C σ Hs ρ → R C Hs H → Rep C σ H ρ → VsOk C ρ Hs H vs ks → ∀ Q : VK, (∀ k u H', S k → R C H H' → VOk C ρ H H' u k → Q u H') → r vs H Q
theorem e_cb {r : List V → Hp → VK → Prop} {t : TA} {P : List Kd → Prop} (h : EA C t ρ P) (hr : ∀ ks, P ks → CbK C ρ r ks S) : EB C (tCB r t) ρ S := fun σ H rp Q q =>
  h σ H rp _ fun ks vs H1 s1 r1 o1 => hr ks s1 σ H H1 vs rp r1 (rp.up r1) o1 Q fun k u H2 s2 r2 o2 => q k u H2 s2 (r1.trans r2) (o2.back rp.ok r1)
theorem e_cb1 {r : List V → Hp → VK → Prop} {t : TA} {ks : List Kd} (h : A1 C t ρ ks) (hr : CbK C ρ r ks fun a => a = z) : E1 C (tCB r t) ρ z := e_cb h fun ks' e => by
  subst e
  exact hr
theorem VsOk.one (h : VsOk C ρ Hs H vs [k]) : ∃ v, vs = [v] ∧ VOk C ρ Hs H v k := by
  cases h with
  | cons a b =>
    cases b
    exact ⟨_, rfl, a⟩
theorem VsOk.two (h : VsOk C ρ Hs H vs [x, y]) : ∃ v w, vs = [v, w] ∧ VOk C ρ Hs H v x ∧ VOk C ρ Hs H w y := by
  cases h with
  | cons a b =>
    cases b with
    | cons b c =>
      cases c
      exact ⟨_, _, rfl, a, b⟩
end
end Mh
namespace Mh
open PySem L2 TL
/-! ### operators for several types at once -/
abbrev rAddI : R2 := rI0 fun i j => .int (i + j)
abbrev rSubI : R2 := rI0 fun i j => .int (i - j)
def rAddT : R2 := fun x y H Q => ∃ i j, x = .str i ∧ y = .str j ∧ i.length + j.length ≤ sizeLine ∧ Q (.str (i ++ j)) H
def rAddP (K : PySem.W.Frag) : R2 := fun x y H Q => rAddI x y H Q ∨ (rAddT x y H Q ∨ (rCat x y H Q ∨ rCatA K x y H Q))
theorem op_addP {X : Cx} : OpR X (binaryOp .Add) (rAddP X.K) := op_add.or ((show OpR X (binaryOp .Add) rAddT from op_add_str).or (op_cat.or op_catA))
abbrev rMulI : R2 := rI CMul fun i j => .int (i * j)
abbrev rDivI : R2 := rI CDiv fun i j => .int (i / j)
abbrev rModI : R2 := rI (fun _ j => 0 < j) fun i j => .int (i % j)
abbrev rPowI : R2 := rI CPow fun i j => .int (i ^ j.toNat)
def rMulP (K : PySem.W.Frag) : R2 := fun x y H Q => rMulI x y H Q ∨ (rRep x y H Q ∨ rRepT K x y H Q)
theorem op_mulP {X : Cx} : OpR X (binaryOp .Mult) (rMulP X.K) := op_mul.or (op_rep.or op_repT)
abbrev rLtI : R2 := rI0 fun i j => .bl (decide (i < j))
abbrev rLeI : R2 := rI0 fun i j => .bl (decide (i ≤ j))
abbrev rGtI : R2 := rI0 fun i j => .bl (decide (j < i))
abbrev rGeI : R2 := rI0 fun i j => .bl (decide (j ≤ i))
def rSlP (K : PySem.W.Frag) : V → Option Int → Option Int → Hp → VK → Prop := fun x lo hi H Q => rSlL K x lo hi H Q ∨ (rSlA K x lo hi H Q ∨ rSlS x lo hi H Q)
theorem sl_P {X : Cx} : SlR X (rSlP X.K) := sl_list.or (sl_tupA.or sl_str)
def rIntP : List V → Hp → VK → Prop := fun xs H Q => ((∃ i, xs = [.int i] ∧ Q (.int i) H) ∨ ∃ k, xs = [.bl k] ∧ Q (.int (if k then 1 else 0)) H) ∨ ∃ a n, xs = [.str a] ∧ PySem.intText? a = some n ∧ a.length ≤ 640 ∧ Q (.int n) H
theorem call_intP {X : Cx} : CallR X (.type "int") rIntP := CallR.or call_int1 call_int_str
def rStrP : List V → Hp → VK → Prop := fun xs H Q => (∃ i, xs = [.int i] ∧ i.natAbs.log2 < 1920 ∧ Q (.str (toString i)) H) ∨ ∃ a, xs = [.str a] ∧ Q (.str a) H
theorem call_strP {X : Cx} : CallR X (.type "str") rStrP := CallR.or call_str_int SkE.call_str_str
def rTupP (K : PySem.W.Frag) : List V → Hp → VK → Prop := fun xs H Q => ∃ p ys, xs = [.ref p] ∧ ((SqL K H p ys ∧ ∀ l, H l = none → Q (.ref l) (upd H l (.tup ys))) ∨ (SqT K H p ys ∧ Q (.ref p) H))
theorem call_tupP {X : Cx} : CallR X (.type "tuple") (rTupP X.K) := call_tuple_of
def rLstP (K : PySem.W.Frag) : List V → Hp → VK → Prop := fun xs H Q => ∃ p ys, xs = [.ref p] ∧ (SqL K H p ys ∨ SqT K H p ys) ∧ ∀ l, H l = none → Q (.ref l) (upd H l (.lst ys))
theorem call_lstP {X : Cx} : CallR X (.type "list") (rLstP X.K) := call_list_of
def rLenP (K : PySem.W.Frag) : List V → Hp → VK → Prop := fun xs H Q => ∃ x n, xs = [x] ∧ LenV K x H n ∧ Q (.int n) H
theorem call_lenP {X : Cx} : CallR X (.builtin "len") (rLenP X.K) := call_len
def rMin2 : List V → Hp → VK → Prop := fun xs H Q => ∃ i j, xs = [.int i, .int j] ∧ Q (.int (if j < i then j else i)) H
theorem call_minP {X : Cx} (hc : X.calm = true) : CallR X (.builtin "min") rMin2 := call_min2 hc
def rMax2 : List V → Hp → VK → Prop := fun xs H Q => ∃ i j, xs = [.int i, .int j] ∧ Q (.int (if j > i then j else i)) H
theorem call_maxP {X : Cx} (hc : X.calm = true) : CallR X (.builtin "max") rMax2 := call_max2 hc
def rAbs : List V → Hp → VK → Prop := fun xs H Q => ∃ i, xs = [.int i] ∧ Q (.int (if i < 0 then -i else i)) H
theorem call_absP {X : Cx} : CallR X (.builtin "abs") rAbs := call_abs
def rJoin (K : PySem.W.Frag) : V → List V → Hp → VK → Prop := fun x xs H Q => ∃ a p, ∃ ys : List Str, x = .str a ∧ xs = [.ref p] ∧ (SqL K H p (ys.map V.str) ∨ SqT K H p (ys.map V.str)) ∧ (ys.map (·.length)).sum + ys.length * a.length ≤ 16777216 ∧ Q (.str (Txt.join a ys)) H
theorem mt_joinP {X : Cx} : MtR X "str.join" (rJoin X.K) := mt_join
def rSplit : V → List V → Hp → VK → Prop := fun x xs H Q => ∃ a b, x = .str a ∧ xs = [.str b] ∧ (b.length == 0) = false ∧ a.length + 2 ≤ sizeLine ∧ rNewStrs (Txt.split a b) H Q
theorem mt_splitP {X : Cx} : MtR X "str.split" rSplit := mt_split
def rEqP (K : PySem.W.Frag) : R2 := fun x y H Q => rEq x y H Q ∨ rEqD K x y H Q
theorem op_eqP {X : Cx} (hu : X.A.units + 64 < cLine) : OpR X (compareOp .Eq) (rEqP X.K) := op_eq.or (op_eqD hu)
def rNeP (K : PySem.W.Frag) : R2 := fun x y H Q => rNe x y H Q ∨ rNeD K x y H Q
theorem op_neP {X : Cx} (hu : X.A.units + 64 < cLine) : OpR X (compareOp .NotEq) (rNeP X.K) := op_ne.or (op_neD hu)
/-! ### what is walked: a list, a tuple, a text -/
def iAny (K : PySem.W.Frag) (tl : TE) : TI := fun σ H W => tl σ H fun x H1 => (∃ a, x = .ref a ∧ (∃ xs, SqL K H1 a xs) ∧ W (Itl K a) H1) ∨ ((∃ a, x = .ref a ∧ (∃ xs, SqT K H1 a xs) ∧ W (Itt K a) H1) ∨ ∃ z, x = .str z ∧ W (Its z) H1)
section
variable {X : Cx} {tg lx : Expr} {tl : TE}
theorem pi_any (hl : PE X lx tl) : PI X tg lx (iAny X.K tl) := ⟨fun pins s σ H W I hw => by
  refine thn (hl.run pins s σ H _ I hw) fun val st ⟨xv, Hn, In, rn, alt⟩ => ?_
  rcases alt with ⟨adr, rfl, ⟨xs, hx⟩, fin⟩ | ⟨adr, rfl, ⟨xs, hx⟩, fin⟩ | ⟨z, rfl, fin⟩
  · cases rn
    obtain ⟨items, _, plain, _⟩ := In.list hx
    exact wpAny_pyIter_list plain.isList (pi_one (tk := st.toks) In _ (turn_list adr _) ⟨_, Heap.get?_push_size _ rfl, rfl, rfl⟩ fin)
  · cases rn
    obtain ⟨items, _, plain, _⟩ := In.tuple hx
    exact wpAny_pyIter_tuple (show st.heap.IsTuple adr items.toArray from plain) (pi_one (tk := st.toks) In _ (turn_tuple adr _) ⟨_, Heap.get?_push_size _ rfl, rfl, rfl⟩ fin)
  · obtain ⟨tok, rfl⟩ := rn
    cases small : z.cps.all (· < 128) with
    | false => exact wpAny_pyIter_wide small (pi_one (tk := st.toks) In _ (turn_str _ z tok "str_iterator" (.inr rfl)) ⟨_, Heap.get?_push_size _ rfl, rfl, rfl⟩ fin)
    | true => exact wpAny_pyIter_ascii small (pi_one (tk := st.toks) In _ (turn_str _ z tok "str_ascii_iterator" (.inl rfl)) ⟨_, Heap.get?_push_size _ rfl, rfl, rfl⟩ fin)⟩
end
section
variable {C : Ct} {σ : L2.St} {H H' H1 H2 Hs : Hp} {ρ : List Kd} {v : V} {k x y z : Kd} {l : Addr} {d e : PyData} {ds es : List PyData} {ta tb te : TE} {tt tu : TT} {i : Nat} {S S1 S2 : Kd → Prop}
/-! ### sums -/
theorem k_add_i {i j : Int} : OpK C ρ (rAddP C.K) (.dat (.int i)) (.dat (.int j)) fun a => a = .dat (.int (i + j)) := OpK.inl (opk_i0 fun _ _ => .int _)
theorem k_sub_i {i j : Int} : OpK C ρ rSubI (.dat (.int i)) (.dat (.int j)) fun a => a = .dat (.int (i - j)) := opk_i0 fun _ _ => .int _
theorem k_add_s {a b : Str} (h : a.length + b.length ≤ sizeLine) : OpK C ρ (rAddP C.K) (.dat (.str a)) (.dat (.str b)) fun z => z = .dat (.str (a ++ b)) :=
  OpK.inr (OpK.inl (opk_val (v := .str a) (w := .str b) (u := .str (a ++ b)) (fun H Q q => ⟨a, b, rfl, rfl, h, q⟩) (fun _ _ _ h => dp_str h) (fun _ _ _ h => dp_str h) fun _ _ => .str _))
theorem k_add_l (hx : lstK x = some ds) (hy : lstK y = some es) (h : ds.length + es.length ≤ sizeLine) : OpK C ρ (rAddP C.K) x y fun z => z = .new (ds ++ es) :=
  OpK.inr (OpK.inr (OpK.inl fun σ Hs H v w rs q r o1 o2 Q k => by
    obtain ⟨a, xs, rfl, h1, p1⟩ := o1.lst hx
    obtain ⟨b, ys, rfl, h2, p2⟩ := o2.lst hy
    refine ⟨a, b, xs, ys, rfl, rfl, h1, h2, by rw [p1.length, p2.length]; exact h, fun p hp => ?_⟩
    obtain ⟨q1, q2⟩ := r.newL hp (p1.append p2)
    exact k _ _ _ rfl q1 q2))
theorem k_add_t (h : ds.length + es.length ≤ sizeLine) : OpK C ρ (rAddP C.K) (.dat (.tuple ds)) (.dat (.tuple es)) fun z => z = .dat (.tuple (ds ++ es)) :=
  OpK.inr (OpK.inr (OpK.inr fun σ Hs H v w rs q r o1 o2 Q k => by
    obtain ⟨a, xs, rfl, h1, p1⟩ := dp_tup o1
    obtain ⟨b, ys, rfl, h2, p2⟩ := dp_tup o2
    refine ⟨a, b, xs, ys, rfl, rfl, Ext.t msk_le h1, Ext.t msk_le h2, by rw [p1.length, p2.length]; exact h, fun e => ?_, fun _ e => ?_, fun _ _ p hp => ?_⟩
    · subst e
      cases p1
      exact k _ _ _ rfl (R.refl r.j) o2
    · subst e
      cases p2
      exact k _ _ _ rfl (R.refl r.j) (by rw [List.append_nil]; exact o1)
    · obtain ⟨q1, q2⟩ := r.newT hp (p1.append p2)
      exact k _ _ _ rfl q1 q2))
theorem k_mul_i {i j : Int} (h : CMul i j) : OpK C ρ (rMulP C.K) (.dat (.int i)) (.dat (.int j)) fun a => a = .dat (.int (i * j)) := OpK.inl (opk_i h fun _ _ => .int _)
theorem k_mulI {i j : Int} (h : CMul i j) : OpK C ρ rMulI (.dat (.int i)) (.dat (.int j)) fun a => a = .dat (.int (i * j)) := opk_i h fun _ _ => .int _
theorem k_div_i {i j : Int} (h : 0 < j ∧ j < 1073741824) : OpK C ρ rDivI (.dat (.int i)) (.dat (.int j)) fun a => a = .dat (.int (i / j)) := opk_i h fun _ _ => .int _
theorem k_mod_i {i j : Int} (h : 0 < j) : OpK C ρ rModI (.dat (.int i)) (.dat (.int j)) fun a => a = .dat (.int (i % j)) := opk_i h fun _ _ => .int _
theorem k_pow_i {i j : Int} (h : CPow i j) : OpK C ρ rPowI (.dat (.int i)) (.dat (.int j)) fun a => a = .dat (.int (i ^ j.toNat)) := opk_i h fun _ _ => .int _
theorem k_lt {i j : Int} : OpK C ρ rLtI (.dat (.int i)) (.dat (.int j)) fun a => a = .dat (.bool (decide (i < j))) := opk_i0 fun _ _ => .bl _
theorem k_le {i j : Int} : OpK C ρ rLeI (.dat (.int i)) (.dat (.int j)) fun a => a = .dat (.bool (decide (i ≤ j))) := opk_i0 fun _ _ => .bl _
theorem k_gt {i j : Int} : OpK C ρ rGtI (.dat (.int i)) (.dat (.int j)) fun a => a = .dat (.bool (decide (j < i))) := opk_i0 fun _ _ => .bl _
theorem k_ge {i j : Int} : OpK C ρ rGeI (.dat (.int i)) (.dat (.int j)) fun a => a = .dat (.bool (decide (j ≤ i))) := opk_i0 fun _ _ => .bl _
/-! ### equal or not -/
def datK : Kd → Option PyData
  | .dat d => some d
  | .own _ ds => some (.list ds)
  | .new ds => some (.list ds)
  | _ => none
theorem VOk.dp (h : VOk C ρ Hs H v k) (e : datK k = some d) : Dp C.K H v d := by
  cases k with
  | dat d' =>
    cases e
    exact Dp.ex msk_le h
  | own l es =>
    cases e
    obtain ⟨rfl, _, vs, h1, h2⟩ := h
    exact .lst (.inl (.inl h1)) (DpAll.ex msk_le h2)
  | new es =>
    cases e
    obtain ⟨l, vs, rfl, _, h1, h2⟩ := h
    exact .lst (.inl (.inl h1)) (DpAll.ex (Ext.trans del_le msk_le) h2)
  | _ => cases e
theorem k_eq (hx : datK x = some d) (hy : datK y = some e) (s1 : SeqAt.shaped d = true) (s2 : SeqAt.shaped e = true) : OpK C ρ (rEqP C.K) x y fun a => a = .dat (.bool (PyData.eqv d e)) :=
  OpK.inr fun σ Hs H v w _ q r o1 o2 Q k => ⟨d, e, o1.dp hx, o2.dp hy, s1, s2, k _ _ _ rfl (R.refl r.j) (.bl _)⟩
theorem k_ne (hx : datK x = some d) (hy : datK y = some e) (s1 : SeqAt.shaped d = true) (s2 : SeqAt.shaped e = true) : OpK C ρ (rNeP C.K) x y fun a => a = .dat (.bool (!PyData.eqv d e)) :=
  OpK.inr fun σ Hs H v w _ q r o1 o2 Q k => ⟨d, e, o1.dp hx, o2.dp hy, s1, s2, k _ _ _ rfl (R.refl r.j) (.bl _)⟩
theorem dec_i (i j : Int) : decide (V.int i = V.int j) = decide (i = j) := decide_eq_decide.mpr ⟨fun h => by injection h, fun h => by rw [h]⟩
theorem dec_s (i j : Str) : decide (V.str i = V.str j) = decide (i = j) := decide_eq_decide.mpr ⟨fun h => by injection h, fun h => by rw [h]⟩
theorem k_eq_i {i j : Int} : OpK C ρ (rEqP C.K) (.dat (.int i)) (.dat (.int j)) fun a => a = .dat (.bool (decide (i = j))) :=
  OpK.inl (opk_val (v := .int i) (w := .int j) (u := .bl (decide (i = j))) (fun H Q q => ⟨rfl, by rw [dec_i]; exact q⟩) (fun _ _ _ h => dp_int h) (fun _ _ _ h => dp_int h) fun _ _ => .bl _)
theorem k_ne_i {i j : Int} : OpK C ρ (rNeP C.K) (.dat (.int i)) (.dat (.int j)) fun a => a = .dat (.bool (!decide (i = j))) :=
  OpK.inl (opk_val (v := .int i) (w := .int j) (u := .bl (!decide (i = j))) (fun H Q q => ⟨rfl, by rw [dec_i]; exact q⟩) (fun _ _ _ h => dp_int h) (fun _ _ _ h => dp_int h) fun _ _ => .bl _)
theorem k_eq_s {i j : Str} : OpK C ρ (rEqP C.K) (.dat (.str i)) (.dat (.str j)) fun a => a = .dat (.bool (decide (i = j))) :=
  OpK.inl (opk_val (v := .str i) (w := .str j) (u := .bl (decide (i = j))) (fun H Q q => ⟨rfl, by rw [dec_s]; exact q⟩) (fun _ _ _ h => dp_str h) (fun _ _ _ h => dp_str h) fun _ _ => .bl _)
theorem k_ne_s {i j : Str} : OpK C ρ (rNeP C.K) (.dat (.str i)) (.dat (.str j)) fun a => a = .dat (.bool (!decide (i = j))) :=
  OpK.inl (opk_val (v := .str i) (w := .str j) (u := .bl (!decide (i = j))) (fun H Q q => ⟨rfl, by rw [dec_s]; exact q⟩) (fun _ _ _ h => dp_str h) (fun _ _ _ h => dp_str h) fun _ _ => .bl _)
def isNon : PyData → Bool
  | .none => true
  | _ => false
theorem dp_isN {K : PySem.W.Frag} (h : Dp K H v d) : decide (v = .non) = isNon d := by
  cases h <;> simp [isNon]
theorem k_isN : OpK C ρ rIsN (.dat d) (.dat .none) fun a => a = .dat (.bool (isNon d)) := fun σ Hs H v w _ q r o1 o2 Q k => by
  obtain rfl := dp_non o2
  exact ⟨rfl, k _ _ _ rfl (R.refl r.j) (by rw [dp_isN o1]; exact .bl _)⟩
theorem k_notN : OpK C ρ rNotN (.dat d) (.dat .none) fun a => a = .dat (.bool (!isNon d)) := fun σ Hs H v w _ q r o1 o2 Q k => by
  obtain rfl := dp_non o2
  exact ⟨rfl, k _ _ _ rfl (R.refl r.j) (by rw [dp_isN o1]; exact .bl _)⟩
/-- one sign in a text -/
theorem k_inS {c : Nat} {w : Str} : OpK C ρ rInS (.dat (.str ⟨#[c]⟩)) (.dat (.str w)) fun a => a = .dat (.bool (decide (c ∈ tl w))) :=
  opk_val (v := .str ⟨#[c]⟩) (w := .str w) (u := .bl _) (fun H Q q => ⟨c, w, rfl, rfl, q⟩) (fun _ _ _ h => dp_str h) (fun _ _ _ h => dp_str h) fun _ _ => .bl _
theorem k_ninS {c : Nat} {w : Str} : OpK C ρ rNotInS (.dat (.str ⟨#[c]⟩)) (.dat (.str w)) fun a => a = .dat (.bool (!decide (c ∈ tl w))) :=
  opk_val (v := .str ⟨#[c]⟩) (w := .str w) (u := .bl _) (fun H Q q => ⟨c, w, rfl, rfl, q⟩) (fun _ _ _ h => dp_str h) (fun _ _ _ h => dp_str h) fun _ _ => .bl _
theorem k_inD (hx : datK x = some d) (hy : datK y = some (.list es)) (s1 : SeqAt.shaped d = true) (s2 : SeqAt.shaped (.list es) = true) : OpK C ρ (rInD C.K) x y fun a => a = .dat (.bool (es.any fun z => PyData.eqv z d)) :=
  fun σ Hs H v w _ q r o1 o2 Q k => ⟨d, es, o1.dp hx, o2.dp hy, s1, s2, k _ _ _ rfl (R.refl r.j) (.bl _)⟩
/-! ### places, parts -/
theorem VOk.atD (r : Rep C σ H ρ) (h : VOk C ρ Hs H v k) (e : seqK k = some ds) {i : Int} (he : atI ds i = some d) : ∃ a xs u, v = .ref a ∧ (SqL C.K H a xs ∨ SqT C.K H a xs) ∧ atI xs i = some u ∧ Dp C.K (msk C ρ H) u d := by
  obtain ⟨a, xs, rfl, h1, h2⟩ := h.seq e
  have hl := h2.length
  unfold atI at he
  cases q : ixN ds.length i with
  | none =>
    rw [q] at he
    cases he
  | some j =>
    rw [q] at he
    obtain ⟨u, h3, h4⟩ := h2.getd (i := j) he
    refine ⟨a, xs, u, rfl, h1, ?_, h4⟩
    unfold atI
    rw [hl, q]
    exact h3
theorem k_ix {i : Int} (e : seqK x = some ds) (he : atI ds i = some d) : OpK C ρ (rIx C.K) x (.dat (.int i)) fun a => a = .dat d := fun σ Hs H v w _ q r o1 o2 Q k => by
  obtain rfl := dp_int o2
  obtain ⟨a, xs, u, rfl, h1, h2, h3⟩ := o1.atD r e he
  rcases h1 with h1 | h1
  · exact .inl ⟨a, xs, i, u, rfl, rfl, h1, h2, k _ _ _ rfl (R.refl r.j) h3⟩
  · exact .inr (.inl ⟨a, xs, i, u, rfl, rfl, h1, h2, k _ _ _ rfl (R.refl r.j) h3⟩)
theorem k_ixS {z : Str} {i : Int} {c : Nat} (hz : z.length ≤ sizeLine) (he : atI (tl z) i = some c) : OpK C ρ (rIx C.K) (.dat (.str z)) (.dat (.int i)) fun a => a = .dat (.str ⟨#[c]⟩) := fun σ Hs H v w _ q r o1 o2 Q k => by
  obtain rfl := dp_int o2
  obtain rfl := dp_str o1
  exact .inr (.inr ⟨z, i, c, rfl, rfl, hz, he, k _ _ _ rfl (R.refl r.j) (.str _)⟩)
def EO (C : Ct) (to : TO) (ρ : List Kd) (o : Option Int) : Prop :=
  ∀ (σ : L2.St) (H : Hp), Rep C σ H ρ → ∀ Q : Option Int → Hp → Prop, (∀ H', R C H H' → Q o H') → to σ H Q
theorem o_none : EO C tNoPart ρ none := fun σ H r Q q => q H (R.refl r.j)
theorem o_some {i : Int} (h : E1 C te ρ (.dat (.int i))) : EO C (tPart te) ρ (some i) := fun σ H r Q q => h σ H r _ fun k v H1 s1 r1 o1 => by
  subst s1
  exact ⟨i, dp_int o1, q H1 r1⟩
def cutD (xs : List PyData) (lo hi : Option Int) : List PyData := (xs.drop (HT.sIx xs.length 0 lo)).take (HT.sIx xs.length xs.length hi - HT.sIx xs.length 0 lo)
theorem cut_all {K : PySem.W.Frag} {xs : List V} {lo hi : Option Int} (h : DpAll K H xs ds) : DpAll K H (cutV xs lo hi) (cutD ds lo hi) := by
  unfold cutV cutD
  rw [h.length]
  exact (h.drop _).take _
theorem VOk.lsq (h : VOk C ρ Hs H v k) (e : datK k = some (.list ds)) : ∃ a xs, v = .ref a ∧ SqL C.K H a xs ∧ DpAll C.K (msk C ρ H) xs ds := by
  cases k with
  | dat d =>
    cases e
    obtain ⟨a, xs, rfl, h1, h2⟩ := dp_lst h
    exact ⟨a, xs, rfl, Ext.l msk_le h1, h2⟩
  | own l es =>
    cases e
    obtain ⟨rfl, _, vs, h1, h2⟩ := h
    exact ⟨l, vs, rfl, .inl (.inl h1), h2⟩
  | new es =>
    cases e
    obtain ⟨l, vs, rfl, _, h1, h2⟩ := h
    exact ⟨l, vs, rfl, .inl (.inl h1), DpAll.ex del_le h2⟩
  | _ => cases e
/-- a part of a list, of a tuple, of a text -/
theorem e_slL {tlo thi : TO} {lo hi : Option Int} (h : E1 C te ρ k) (h1 : EO C tlo ρ lo) (h2 : EO C thi ρ hi) (e : datK k = some (.list ds)) : E1 C (tSl (rSlP C.K) te tlo thi) ρ (.new (cutD ds lo hi)) := fun σ H rp Q q =>
  h σ H rp _ fun k' v H1 s1 r1 o1 => h1 σ H1 (rp.up r1) _ fun H2 r2 => h2 σ H2 (rp.up (r1.trans r2)) _ fun H3 r3 => by
    subst s1
    have r0 := (r1.trans r2).trans r3
    have r4 := rp.up r0
    obtain ⟨a, xs, rfl, h5, h6⟩ := (o1.up rp (r2.trans r3)).lsq e
    refine .inl ⟨a, xs, rfl, h5, fun p hp => ?_⟩
    obtain ⟨q1, q2⟩ := r4.newL hp (cut_all h6)
    exact q _ _ _ rfl (r0.trans q1) (q2.back rp.ok r0)
theorem cut_whole {lo hi : Option Int} (h : HT.sIx ds.length 0 lo = 0 ∧ HT.sIx ds.length ds.length hi = ds.length) : cutD ds lo hi = ds := by
  unfold cutD
  rw [h.1, h.2]
  simp
theorem e_slT {tlo thi : TO} {lo hi : Option Int} (h : E1 C te ρ (.dat (.tuple ds))) (h1 : EO C tlo ρ lo) (h2 : EO C thi ρ hi) : E1 C (tSl (rSlP C.K) te tlo thi) ρ (.dat (.tuple (cutD ds lo hi))) := fun σ H rp Q q =>
  h σ H rp _ fun k' v H1 s1 r1 o1 => h1 σ H1 (rp.up r1) _ fun H2 r2 => h2 σ H2 (rp.up (r1.trans r2)) _ fun H3 r3 => by
    subst s1
    have r0 := (r1.trans r2).trans r3
    have r4 := rp.up r0
    have o4 : VOk C ρ H H3 v (.dat (.tuple ds)) := o1.up rp (r2.trans r3)
    obtain ⟨a, xs, rfl, h5, h6⟩ := dp_tup o4
    have hl := h6.length
    refine .inr (.inl ⟨a, xs, rfl, Ext.t msk_le h5, fun z => ?_, fun _ p hp => ?_⟩)
    · rw [hl] at z
      rw [cut_whole z] at q
      exact q _ _ _ rfl r0 o4
    · obtain ⟨q1, q2⟩ := r4.newT hp (cut_all h6)
      exact q _ _ _ rfl (r0.trans q1) q2
theorem e_slS {tlo thi : TO} {lo hi : Option Int} {z : Str} (h : E1 C te ρ (.dat (.str z))) (h1 : EO C tlo ρ lo) (h2 : EO C thi ρ hi) (hz : z.length ≤ sizeLine) : E1 C (tSl (rSlP C.K) te tlo thi) ρ (.dat (.str (cutS z lo hi))) := fun σ H rp Q q =>
  h σ H rp _ fun k' v H1 s1 r1 o1 => h1 σ H1 (rp.up r1) _ fun H2 r2 => h2 σ H2 (rp.up (r1.trans r2)) _ fun H3 r3 => by
    subst s1
    obtain rfl := dp_str o1
    exact .inr (.inr ⟨z, rfl, hz, q _ _ _ rfl ((r1.trans r2).trans r3) (.str _)⟩)
/-! ### calls of built-ins -/
theorem c_len (e : seqK k = some ds) : CbK C ρ (rLenP C.K) [k] fun a => a = .dat (.int ds.length) := fun σ Hs H vs _ q r o Q g => by
  obtain ⟨v, rfl, o1⟩ := o.one
  obtain ⟨a, xs, rfl, h1, h2⟩ := o1.seq e
  refine ⟨_, xs.length, rfl, ?_, by rw [h2.length]; exact g _ _ _ rfl (R.refl r.j) (.int _)⟩
  rcases h1 with h1 | h1
  · exact .inl ⟨xs, h1, rfl⟩
  · exact .inr ⟨xs, h1, rfl⟩
theorem c_lenS {z : Str} (hz : z.length ≤ sizeLine) : CbK C ρ (rLenP C.K) [.dat (.str z)] fun a => a = .dat (.int z.length) := fun σ Hs H vs _ q r o Q g => by
  obtain ⟨v, rfl, o1⟩ := o.one
  obtain rfl := dp_str o1
  exact ⟨_, z.length, rfl, ⟨hz, rfl⟩, g _ _ _ rfl (R.refl r.j) (.int _)⟩
theorem c_int {i : Int} : CbK C ρ rIntP [.dat (.int i)] fun a => a = .dat (.int i) := fun σ Hs H vs _ q r o Q g => by
  obtain ⟨v, rfl, o1⟩ := o.one
  obtain rfl := dp_int o1
  exact .inl (.inl ⟨i, rfl, g _ _ _ rfl (R.refl r.j) (.int _)⟩)
theorem c_intS {z : Str} {n : Int} (h : PySem.intText? z = some n) (hz : z.length ≤ 640) : CbK C ρ rIntP [.dat (.str z)] fun a => a = .dat (.int n) := fun σ Hs H vs _ q r o Q g => by
  obtain ⟨v, rfl, o1⟩ := o.one
  obtain rfl := dp_str o1
  exact .inr ⟨z, n, rfl, h, hz, g _ _ _ rfl (R.refl r.j) (.int _)⟩
theorem c_str {i : Int} (h : i.natAbs.log2 < 1920) : CbK C ρ rStrP [.dat (.int i)] fun a => a = .dat (.str (toString i)) := fun σ Hs H vs _ q r o Q g => by
  obtain ⟨v, rfl, o1⟩ := o.one
  obtain rfl := dp_int o1
  exact .inl ⟨i, rfl, h, g _ _ _ rfl (R.refl r.j) (.str _)⟩
theorem c_tupL (e : datK k = some (.list ds)) : CbK C ρ (rTupP C.K) [k] fun a => a = .dat (.tuple ds) := fun σ Hs H vs _ q r o Q g => by
  obtain ⟨v, rfl, o1⟩ := o.one
  obtain ⟨a, xs, rfl, h1, h2⟩ := o1.lsq e
  refine ⟨a, xs, rfl, .inl ⟨h1, fun p hp => ?_⟩⟩
  obtain ⟨q1, q2⟩ := r.newT hp h2
  exact g _ _ _ rfl q1 q2
theorem c_lst (e : seqK k = some ds) : CbK C ρ (rLstP C.K) [k] fun a => a = .new ds := fun σ Hs H vs _ q r o Q g => by
  obtain ⟨v, rfl, o1⟩ := o.one
  obtain ⟨a, xs, rfl, h1, h2⟩ := o1.seq e
  refine ⟨a, xs, rfl, h1, fun p hp => ?_⟩
  obtain ⟨q1, q2⟩ := r.newL hp h2
  exact g _ _ _ rfl q1 q2
theorem c_min {i j : Int} : CbK C ρ rMin2 [.dat (.int i), .dat (.int j)] fun a => a = .dat (.int (if j < i then j else i)) := fun σ Hs H vs _ q r o Q g => by
  obtain ⟨v, w, rfl, o1, o2⟩ := o.two
  obtain rfl := dp_int o1
  obtain rfl := dp_int o2
  exact ⟨i, j, rfl, g _ _ _ rfl (R.refl r.j) (.int _)⟩
theorem c_max {i j : Int} : CbK C ρ rMax2 [.dat (.int i), .dat (.int j)] fun a => a = .dat (.int (if j > i then j else i)) := fun σ Hs H vs _ q r o Q g => by
  obtain ⟨v, w, rfl, o1, o2⟩ := o.two
  obtain rfl := dp_int o1
  obtain rfl := dp_int o2
  exact ⟨i, j, rfl, g _ _ _ rfl (R.refl r.j) (.int _)⟩
theorem c_abs {i : Int} : CbK C ρ rAbs [.dat (.int i)] fun a => a = .dat (.int (if i < 0 then -i else i)) := fun σ Hs H vs _ q r o Q g => by
  obtain ⟨v, rfl, o1⟩ := o.one
  obtain rfl := dp_int o1
  exact ⟨i, rfl, g _ _ _ rfl (R.refl r.j) (.int _)⟩
/-! ### isinstance of a built-in class -/
def tyK : Kd → Option String
  | .dat .none => some "NoneType"
  | .dat (.bool _) => some "bool"
  | .dat (.int _) => some "int"
  | .dat (.str _) => some "str"
  | .dat (.tuple _) => some "tuple"
  | .dat (.list _) => some "list"
  | .own _ _ => some "list"
  | .new _ => some "list"
  | _ => none
theorem sqT_ty {K : PySem.W.Frag} {a : Addr} {xs : List V} (h : SqT K H a xs) : TyX K H (.ref a) (.type "tuple") := by
  rcases h with (h | ⟨o, h⟩) | ⟨o, its, n, h1, h2, _⟩
  · exact .base (.tup h)
  · exact .fTuple h
  · exact .kTuple h1 h2
theorem sqL_ty {K : PySem.W.Frag} {a : Addr} {xs : List V} (h : SqL K H a xs) : TyX K H (.ref a) (.type "list") := by
  rcases h with (h | ⟨o, h⟩) | ⟨o, its, n, h1, h2, _⟩
  · exact .base (.lst h)
  · exact .base (.frz h)
  · exact .kList h1 h2
theorem VOk.ty {T : String} (h : VOk C ρ Hs H v k) (e : tyK k = some T) : TyX C.K H v (.type T) := by
  cases k with
  | dat d =>
    have h' := Dp.ex msk_le (show Dp C.K (msk C ρ H) v d from h)
    cases h' with
    | non =>
      cases e
      exact .base .non
    | bl b =>
      cases e
      exact .base (.bl b)
    | int b =>
      cases e
      exact .base (.int b)
    | str b =>
      cases e
      exact .base (.str b)
    | lst h1 _ =>
      cases e
      exact sqL_ty h1
    | tup h1 _ =>
      cases e
      exact sqT_ty h1
  | own l es =>
    cases e
    obtain ⟨rfl, _, vs, h1, h2⟩ := h
    exact .base (.lst h1)
  | new es =>
    cases e
    obtain ⟨l, vs, rfl, _, h1, h2⟩ := h
    exact .base (.lst h1)
  | _ => cases e
/-- isinstance(e, T) -/
theorem e_isi {n T : String} {b : Bool} {tc : TE} (h : E1 C te ρ k) (e : tyK k = some T) (hb : kitB T n = some b) : E1 C (tCB (rIsi C.K) (tCons te (tCons (tC (.ty n)) tNil))) ρ (.dat (.bool b)) := fun σ H rp Q q =>
  h σ H rp _ fun k' v H1 s1 r1 o1 => by
    subst s1
    exact ⟨v, .ty n, .type T, .type n, b, rfl, .ty n, o1.ty e, kit_ty hb, q _ _ _ rfl r1 (.bl _)⟩
/-! ### tests -/
def bK : Kd → Option Bool
  | .dat .none => some false
  | .dat (.bool b) => some b
  | .dat (.int i) => some (i != 0)
  | .dat (.tuple ds) => some !ds.isEmpty
  | .dat (.list ds) => some !ds.isEmpty
  | .own _ ds => some !ds.isEmpty
  | .new ds => some !ds.isEmpty
  | _ => none
theorem all_empty {K : PySem.W.Frag} {xs : List V} (h : DpAll K H xs ds) : (!xs.isEmpty) = !ds.isEmpty := by
  cases h <;> rfl
theorem VOk.tru {b : Bool} (h : VOk C ρ Hs H v k) (e : bK k = some b) : TruV C.K v H b := by
  have sq : ∀ ds, seqK k = some ds → (!ds.isEmpty) = b → TruV C.K v H b := fun ds e1 e2 => by
    obtain ⟨a, xs, rfl, h1, h2⟩ := h.seq e1
    rw [← e2, ← all_empty h2]
    rcases h1 with h1 | h1
    · exact .inl ⟨xs, h1, rfl⟩
    · exact .inr (.inl ⟨xs, h1, rfl⟩)
  cases k with
  | dat d =>
    cases d with
    | none =>
      cases e
      obtain rfl := dp_non h
      rfl
    | bool c =>
      cases e
      obtain rfl := dp_bl h
      rfl
    | int i =>
      cases e
      obtain rfl := dp_int h
      rfl
    | str z => cases e
    | dict _ => cases e
    | tuple ds => exact sq ds rfl (Option.some.inj e)
    | list ds => exact sq ds rfl (Option.some.inj e)
  | own l es => exact sq es rfl (Option.some.inj e)
  | new es => exact sq es rfl (Option.some.inj e)
  | _ => cases e
theorem t_tru {b : Bool} (h : E1 C te ρ k) (e : bK k = some b) : T1 C (tTru C.K te) ρ b := fun σ H rp Q q => h σ H rp _ fun k' v H1 s1 r1 o1 => by
  subst s1
  exact ⟨b, o1.tru e, q b H1 rfl r1⟩
theorem t_truS {b : Bool} {P : Bool → Prop} (h : EB C te ρ S) (s : ∀ k, S k → ∃ b, bK k = some b ∧ P b) : ET C (tTru C.K te) ρ P := fun σ H rp Q q => h σ H rp _ fun k' v H1 s1 r1 o1 => by
  obtain ⟨b, e, p⟩ := s k' s1
  exact ⟨b, o1.tru e, q b H1 p r1⟩
theorem t_test {b : Bool} (h : E1 C te ρ (.dat (.bool b))) : T1 C (tTest te) ρ b := fun σ H rp Q q => h σ H rp _ fun k' v H1 s1 r1 o1 => by
  subst s1
  exact ⟨b, dp_bl o1, q b H1 rfl r1⟩
theorem t_testS {P : Bool → Prop} (h : EB C te ρ S) (s : ∀ k, S k → ∃ b, k = .dat (.bool b) ∧ P b) : ET C (tTest te) ρ P := fun σ H rp Q q => h σ H rp _ fun k' v H1 s1 r1 o1 => by
  obtain ⟨b, rfl, p⟩ := s k' s1
  exact ⟨b, dp_bl o1, q b H1 p r1⟩
theorem t_B {b : Bool} (h : E1 C te ρ (.dat (.bool b))) : T1 C (tB te) ρ b := fun σ H rp Q q => h σ H rp _ fun k' v H1 s1 r1 o1 => by
  subst s1
  exact ⟨b, dp_bl o1, q b H1 rfl r1⟩
theorem t_not {a : Bool} (h : T1 C tt ρ a) : T1 C (tNot tt) ρ (!a) := fun σ H rp Q q => h σ H rp _ fun b H1 s1 r1 => by
  subst s1
  exact q _ H1 rfl r1
theorem t_and {a b : Bool} (h : T1 C tt ρ a) (h2 : a = true → T1 C tu ρ b) : T1 C (tAnd tt tu) ρ (a && b) := fun σ H rp Q q => h σ H rp _ fun a' H1 s1 r1 => by
  subst s1
  cases a' with
  | false => exact q _ H1 rfl r1
  | true => exact h2 rfl σ H1 (rp.up r1) _ fun b' H2 s2 r2 => q b' H2 (by rw [s2]; rfl) (r1.trans r2)
theorem t_or {a b : Bool} (h : T1 C tt ρ a) (h2 : a = false → T1 C tu ρ b) : T1 C (tOr tt tu) ρ (a || b) := fun σ H rp Q q => h σ H rp _ fun a' H1 s1 r1 => by
  subst s1
  cases a' with
  | true => exact q _ H1 rfl r1
  | false => exact h2 rfl σ H1 (rp.up r1) _ fun b' H2 s2 r2 => q b' H2 (by rw [s2]; rfl) (r1.trans r2)
theorem t_notS {P P1 : Bool → Prop} (h : ET C tt ρ P1) (s : ∀ a, P1 a → P (!a)) : ET C (tNot tt) ρ P := fun σ H rp Q q => h σ H rp _ fun b H1 s1 r1 => q _ H1 (s b s1) r1
theorem t_andS {P P1 P2 : Bool → Prop} (h : ET C tt ρ P1) (h2 : P1 true → ET C tu ρ P2) (s1 : P1 false → P false) (s2 : P1 true → ∀ b, P2 b → P b) : ET C (tAnd tt tu) ρ P := fun σ H rp Q q => h σ H rp _ fun a' H1 p1 r1 => by
  cases a' with
  | false => exact q _ H1 (s1 p1) r1
  | true => exact h2 p1 σ H1 (rp.up r1) _ fun b' H2 p2 r2 => q b' H2 (s2 p1 _ p2) (r1.trans r2)
theorem t_orS {P P1 P2 : Bool → Prop} (h : ET C tt ρ P1) (h2 : P1 false → ET C tu ρ P2) (s1 : P1 true → P true) (s2 : P1 false → ∀ b, P2 b → P b) : ET C (tOr tt tu) ρ P := fun σ H rp Q q => h σ H rp _ fun a' H1 p1 r1 => by
  cases a' with
  | true => exact q _ H1 (s1 p1) r1
  | false => exact h2 p1 σ H1 (rp.up r1) _ fun b' H2 p2 r2 => q b' H2 (s2 p1 _ p2) (r1.trans r2)
theorem e_and {a b : Bool} (h : E1 C ta ρ (.dat (.bool a))) (h2 : a = true → E1 C tb ρ (.dat (.bool b))) : E1 C (tAndV ta tb) ρ (.dat (.bool (a && b))) := fun σ H rp Q q => h σ H rp _ fun k v H1 s1 r1 o1 => by
  subst s1
  refine ⟨a, dp_bl o1, ?_⟩
  cases a with
  | false => exact q _ _ H1 rfl r1 (.bl _)
  | true => exact h2 rfl σ H1 (rp.up r1) Q fun k2 v2 H2 s2 r2 o2 => q k2 v2 H2 (by rw [s2]; rfl) (r1.trans r2) (o2.back rp.ok r1)
theorem e_or {a b : Bool} (h : E1 C ta ρ (.dat (.bool a))) (h2 : a = false → E1 C tb ρ (.dat (.bool b))) : E1 C (tOrV ta tb) ρ (.dat (.bool (a || b))) := fun σ H rp Q q => h σ H rp _ fun k v H1 s1 r1 o1 => by
  subst s1
  refine ⟨a, dp_bl o1, ?_⟩
  cases a with
  | true => exact q _ _ H1 rfl r1 (.bl _)
  | false => exact h2 rfl σ H1 (rp.up r1) Q fun k2 v2 H2 s2 r2 o2 => q k2 v2 H2 (by rw [s2]; rfl) (r1.trans r2) (o2.back rp.ok r1)
theorem e_not {a : Bool} (h : E1 C ta ρ (.dat (.bool a))) : E1 C (tNotV ta) ρ (.dat (.bool (!a))) := fun σ H rp Q q => h σ H rp _ fun k v H1 s1 r1 o1 => by
  subst s1
  exact ⟨a, dp_bl o1, q _ _ H1 rfl r1 (.bl _)⟩
theorem e_if {P : Bool → Prop} (h : ET C tt ρ P) (h1 : P true → EB C ta ρ S) (h2 : P false → EB C tb ρ S) : EB C (tIf tt ta tb) ρ S := fun σ H rp Q q => h σ H rp _ fun b H1 s1 r1 => by
  cases b with
  | true => exact h1 s1 σ H1 (rp.up r1) Q fun k2 v2 H2 s2 r2 o2 => q k2 v2 H2 s2 (r1.trans r2) (o2.back rp.ok r1)
  | false => exact h2 s1 σ H1 (rp.up r1) Q fun k2 v2 H2 s2 r2 o2 => q k2 v2 H2 s2 (r1.trans r2) (o2.back rp.ok r1)
/-! ### join, split -/
theorem VOk.strs {zs : List Str} (h : VOk C ρ Hs H v k) (e : seqK k = some (zs.map .str)) : ∃ a, v = .ref a ∧ (SqL C.K H a (zs.map V.str) ∨ SqT C.K H a (zs.map V.str)) := by
  obtain ⟨a, xs, rfl, h1, h2⟩ := h.seq e
  rw [h2.strs] at h1
  exact ⟨a, rfl, h1⟩
theorem e_join {z : Str} {zs : List Str} (h : E1 C ta ρ (.dat (.str z))) (h2 : E1 C tb ρ k) (e : seqK k = some (zs.map .str)) (hz : (zs.map (·.length)).sum + zs.length * z.length ≤ 16777216) :
    E1 C (tM1 (rJoin C.K) ta tb) ρ (.dat (.str (Txt.join z zs))) := fun σ H rp Q q => h σ H rp _ fun k1 v H1 s1 r1 o1 => by
  subst s1
  obtain rfl := dp_str o1
  refine ⟨⟨z, rfl⟩, h2 σ H1 (rp.up r1) _ fun k2 w H2 s2 r2 o2 => ?_⟩
  subst s2
  obtain ⟨a, rfl, h3⟩ := o2.strs e
  exact ⟨z, a, zs, rfl, rfl, h3, hz, q _ _ _ rfl (r1.trans r2) (.str _)⟩
theorem e_split {z y : Str} (h : E1 C ta ρ (.dat (.str z))) (h2 : E1 C tb ρ (.dat (.str y))) (hy : (y.length == 0) = false) (hz : z.length + 2 ≤ sizeLine) :
    E1 C (tM1 rSplit ta tb) ρ (.new ((Txt.split z y).map .str)) := fun σ H rp Q q => h σ H rp _ fun k1 v H1 s1 r1 o1 => by
  subst s1
  obtain rfl := dp_str o1
  refine ⟨⟨z, rfl⟩, h2 σ H1 (rp.up r1) _ fun k2 w H2 s2 r2 o2 => ?_⟩
  subst s2
  obtain rfl := dp_str o2
  refine ⟨z, y, rfl, rfl, hy, hz, fun p hp => ?_⟩
  obtain ⟨q1, q2⟩ := (rp.up (r1.trans r2)).newL hp (DpAll.of_strs (K := C.K) (H := msk C ρ H2) (Txt.split z y))
  exact q _ _ _ rfl ((r1.trans r2).trans q1) (q2.back rp.ok (r1.trans r2))
end
end Mh
namespace Mh
open PySem L2 TL
/-! ### statements -/
structure Po where
  nx : List Kd → Prop := fun _ => False
  rt : Kd → Prop := fun _ => False
  bk : List Kd → Prop := fun _ => False
  ct : List Kd → Prop := fun _ => False
/-- a value handed back -/
def RV (C : Ct) (H : Hp) (v : V) : Kd → Prop
  | .dat d => Dp C.K (fsh C.H0 C.F H) v d
  | .new ds => ∃ l vs, v = .ref l ∧ C.H0 l = none ∧ H l = some (.lst vs) ∧ DpAll C.K (del l (fsh C.H0 C.F H)) vs ds
  | .k φ => φ.ok C.K (fsh C.H0 C.F H) v
  | _ => False
def ROk (C : Ct) (v : V) (H : Hp) (k : Kd) : Prop := R C C.H0 H ∧ RV C H v k
structure Pd (C : Ct) (P : Po) (D : Ends) : Prop where
  nx : ∀ ρ σ H, P.nx ρ → Rep C σ H ρ → D.nx σ H
  rt : ∀ k v H, P.rt k → ROk C v H k → D.rt v H
  bk : ∀ ρ σ H, P.bk ρ → Rep C σ H ρ → D.bk σ H
  ct : ∀ ρ σ H, P.ct ρ → Rep C σ H ρ → D.ct σ H
def BS (C : Ct) (t : TS) (ρ : List Kd) (P : Po) : Prop := ∀ (σ : L2.St) (H : Hp), Rep C σ H ρ → ∀ D : Ends, Pd C P D → t D σ H
section
variable {C : Ct} {σ : L2.St} {H H' H1 H2 Hs : Hp} {ρ : List Kd} {v : V} {k x y z : Kd} {l : Addr} {d e : PyData} {ds es : List PyData} {ta tb te : TE} {tt : TT} {t u : TS} {i j : Nat} {S S1 S2 : Kd → Prop} {P P' : Po}
theorem BS.imp (h : BS C t ρ P) (n : ∀ r, P.nx r → P'.nx r) (rt : ∀ r, P.rt r → P'.rt r) (b : ∀ r, P.bk r → P'.bk r) (c : ∀ r, P.ct r → P'.ct r) : BS C t ρ P' := fun σ H r D pd =>
  h σ H r D ⟨fun ρ σ H p => pd.nx ρ σ H (n _ p), fun k v H p => pd.rt k v H (rt _ p), fun ρ σ H p => pd.bk ρ σ H (b _ p), fun ρ σ H p => pd.ct ρ σ H (c _ p)⟩
theorem b_next (h : P.nx ρ) : BS C tNext ρ P := fun σ H r D pd => pd.nx ρ σ H h r
theorem b_break (h : P.bk ρ) : BS C tBreak ρ P := fun σ H r D pd => pd.bk ρ σ H h r
theorem b_cont (h : P.ct ρ) : BS C tCont ρ P := fun σ H r D pd => pd.ct ρ σ H h r
theorem b_seq (h : BS C t ρ { P with nx := fun r => BS C u r P }) : BS C (tSeq t u) ρ P := fun σ H r D pd => h σ H r { D with nx := u D } ⟨fun ρ' σ' H' m r' => m σ' H' r' D pd, pd.rt, pd.bk, pd.ct⟩
/-- what a name's store leads to -/
def NxA (N : List Kd → Prop) (ρ : List Kd) (i : Nat) : Kd → Prop
  | .dat d => N (ρ.set i (.dat d))
  | .k φ => N (ρ.set i (.k φ))
  | .new ds => ∀ l, N (ρ.set i (.own l ds))
  | _ => False
theorem nx_store (r : Rep C σ H ρ) (q : R C H H') (o : VOk C ρ H H' v k) {N : List Kd → Prop} (h : NxA N ρ i k) : ∃ ρ', N ρ' ∧ Rep C (σ.set i (some v)) H' ρ' := by
  cases k with
  | dat d => exact ⟨_, h, (r.up q).set_plain (k := .dat d) rfl o⟩
  | k φ => exact ⟨_, h, (r.up q).set_plain (k := .k φ) rfl o⟩
  | new ds =>
    obtain ⟨l, vs, rfl, h1, h2, h3⟩ := o
    exact ⟨_, h l, r.set_new q h1 h2 h3⟩
  | un => exact False.elim h
  | own _ _ => exact False.elim h
theorem b_asg (h : EB C te ρ S) (s : ∀ z, S z → NxA P.nx ρ i z) : BS C (tAsg te (gName i)) ρ P := fun σ H r D pd => h σ H r _ fun k v H' s1 r1 o1 => by
  obtain ⟨ρ', n, r'⟩ := nx_store r r1 o1 (s k s1)
  exact pd.nx ρ' _ H' n r'
theorem q_asgS (h : EB C te ρ S) (s : ∀ z, S z → NxA (fun r => BS C u r P) ρ i z) : BS C (tSeq (tAsg te (gName i)) u) ρ P := b_seq (b_asg h s)
theorem q_asg (h : E1 C te ρ (.dat d)) (s : BS C u (ρ.set i (.dat d)) P) : BS C (tSeq (tAsg te (gName i)) u) ρ P := q_asgS h fun z e => by
  subst e
  exact s
theorem q_asgN (h : E1 C te ρ (.new ds)) (s : ∀ l, BS C u (ρ.set i (.own l ds)) P) : BS C (tSeq (tAsg te (gName i)) u) ρ P := q_asgS h fun z e => by
  subst e
  exact s
theorem b_if {T : Bool → Prop} (h : ET C tt ρ T) (h1 : T true → BS C t ρ P) (h2 : T false → BS C u ρ P) : BS C (tIfS tt t u) ρ P := fun σ H r D pd => h σ H r _ fun b H' s1 r1 => by
  cases b with
  | true => exact h1 s1 σ H' (r.up r1) D pd
  | false => exact h2 s1 σ H' (r.up r1) D pd
theorem q_if {w : TS} {T : Bool → Prop} (h : ET C tt ρ T) (h1 : T true → BS C t ρ { P with nx := fun r => BS C w r P }) (h2 : T false → BS C u ρ { P with nx := fun r => BS C w r P }) : BS C (tSeq (tIfS tt t u) w) ρ P := b_seq (b_if h h1 h2)
/-- if without else -/
theorem q_when {w : TS} {T : Bool → Prop} (h : ET C tt ρ T) (h1 : T true → BS C t ρ { P with nx := fun r => BS C w r P }) (h2 : T false → BS C w ρ P) : BS C (tSeq (tIfS tt t tNext) w) ρ P := q_if h h1 fun q => b_next (h2 q)
theorem b_drop (h : EB C te ρ S) (s : P.nx ρ) : BS C (tDrop te) ρ P := fun σ H r D pd => h σ H r _ fun k v H' s1 r1 o1 => pd.nx ρ σ H' s (r.up r1)
/-! ### return -/
def nlL (ds : List PyData) : Bool := L2.nl.nlAll ds
theorem fsh_dp (r : Rep C σ H ρ) (n : C.fr = true ∨ nl d = true) (h : Dp C.K (msk C ρ H) v d) : Dp C.K (fsh C.H0 C.F H) v d := by
  have e1 : C.fr = true → Ext (msk C ρ H) (fsh C.H0 C.F H) := fun f a o q => by
    obtain ⟨h1, h2, h3, h4⟩ := msk_of q
    exact fsh_mk h1 h3 fun z => h4 ⟨f, z.1, z.2⟩
  rcases n with n | n
  · exact Dp.ex (e1 n) h
  · refine Dp.tx (fun a xs q => ?_) n h
    rcases q with q | ⟨o, q⟩
    · obtain ⟨h1, h2, h3, _⟩ := msk_of q
      exact .inl (fsh_mk h1 h3 fun z => by
        rw [h1] at z
        exact z.2)
    · obtain ⟨h1, h2, h3, _⟩ := msk_of q
      exact .inr ⟨o, fsh_mk h1 h3 fun z => by
        rw [h1] at z
        exact z.2⟩
theorem fsh_all (r : Rep C σ H ρ) (n : C.fr = true ∨ nlL ds = true) {M : Hp} (hM : Ext M (msk C ρ H)) {l : Addr} (hl : ∀ a o, M a = some o → a ≠ l) {vs : List V} (h : DpAll C.K M vs ds) : DpAll C.K (del l (fsh C.H0 C.F H)) vs ds := by
  have e1 : C.fr = true → Ext M (del l (fsh C.H0 C.F H)) := fun f a o q => by
    obtain ⟨h1, h2, h3, h4⟩ := msk_of (hM a o q)
    exact del_mk (fsh_mk h1 h3 fun z => h4 ⟨f, z.1, z.2⟩) (hl a o q)
  rcases n with n | n
  · exact DpAll.ex (e1 n) h
  · refine DpAll.tx (fun a xs q => ?_) n h
    rcases q with q | ⟨o, q⟩
    · obtain ⟨h1, h2, h3, _⟩ := msk_of (hM _ _ q)
      exact .inl (del_mk (fsh_mk h1 h3 fun z => by
        rw [h1] at z
        exact z.2) (hl _ _ q))
    · obtain ⟨h1, h2, h3, _⟩ := msk_of (hM _ _ q)
      exact .inr ⟨o, del_mk (fsh_mk h1 h3 fun z => by
        rw [h1] at z
        exact z.2) (hl _ _ q)⟩
/-- what may be handed back -/
def RtK (C : Ct) (rt : Kd → Prop) : Kd → Prop
  | .dat d => (C.fr = true ∨ nl d = true) ∧ rt (.dat d)
  | .new ds => (C.fr = true ∨ nlL ds = true) ∧ rt (.new ds)
  | .own _ ds => (C.fr = true ∨ nlL ds = true) ∧ rt (.new ds)
  | .k φ => C.fr = true ∧ rt (.k φ)
  | .un => False
theorem rt_ok (r : Rep C σ H ρ) (q : R C H H') (o : VOk C ρ H H' v k) {rt : Kd → Prop} (h : RtK C rt k) : ∃ k', rt k' ∧ ROk C v H' k' := by
  have r2 := r.up q
  have q0 : R C C.H0 H' := ⟨r2.j, r2.old⟩
  cases k with
  | dat d => exact ⟨_, h.2, q0, fsh_dp r2 h.1 o⟩
  | new ds =>
    obtain ⟨l, vs, rfl, h1, h2, h3⟩ := o
    exact ⟨_, h.2, q0, l, vs, rfl, r.h0 h1, h2, fsh_all r2 h.1 del_le (fun a o z => (del_of z).2) h3⟩
  | own l ds =>
    obtain ⟨rfl, h1, vs, h2, h3⟩ := o
    exact ⟨_, h.2, q0, l, vs, rfl, r.fr l h1, h2, fsh_all r2 h.1 (Ext.refl _) (fun a o z e => (msk_of z).2.1 (e ▸ h1)) h3⟩
  | k φ =>
    refine ⟨_, h.2, q0, φ.up (fun a o z => ?_) o⟩
    obtain ⟨h1, h2, h3, h4⟩ := msk_of z
    exact fsh_mk h1 h3 fun z => h4 ⟨h.1, z.1, z.2⟩
  | un => exact False.elim h
theorem b_retS (h : EB C te ρ S) (s : ∀ z, S z → RtK C P.rt z) : BS C (tRet te) ρ P := fun σ H r D pd => h σ H r _ fun k v H' s1 r1 o1 => by
  obtain ⟨k', n, r'⟩ := rt_ok r r1 o1 (s k s1)
  exact pd.rt k' _ H' n r'
theorem b_ret (h : E1 C te ρ (.dat d)) (n : nl d = true) (s : P.rt (.dat d)) : BS C (tRet te) ρ P := b_retS h fun z e => by
  subst e
  exact ⟨.inr n, s⟩
theorem b_retL (h : E1 C te ρ k) (e : lstK k = some ds) (n : nlL ds = true) (s : P.rt (.new ds)) : BS C (tRet te) ρ P := b_retS h fun z e2 => by
  subst e2
  cases z with
  | own _ _ =>
    cases e
    exact ⟨.inr n, s⟩
  | new _ =>
    cases e
    exact ⟨.inr n, s⟩
  | _ => cases e
theorem b_retN (s : P.rt (.dat .none)) : BS C tRetN ρ P := fun σ H r D pd => pd.rt (.dat .none) _ H s ⟨⟨r.j, r.old⟩, .non⟩
/-! ### x op= e -/
theorem b_aug {f : Int → Int → Int} {a b : Int} (hi : ρ[i]? = some (.dat (.int a))) (h : E1 C te ρ (.dat (.int b))) (s : P.nx (ρ.set i (.dat (.int (f a b))))) : BS C (tAug i te (ipI f)) ρ P := fun σ H r D pd => by
  obtain ⟨v, e, o⟩ := r.var hi rfl
  obtain rfl := dp_int o
  refine ⟨_, e, h σ H r _ fun k w H' s1 r1 o1 => ?_⟩
  subst s1
  obtain rfl := dp_int o1
  exact ⟨a, b, rfl, rfl, pd.nx _ _ H' s ((r.up r1).set_plain (Hs := H) (k := .dat (.int (f a b))) rfl (.int _))⟩
theorem q_aug {f : Int → Int → Int} {a b : Int} (hi : ρ[i]? = some (.dat (.int a))) (h : E1 C te ρ (.dat (.int b))) (s : BS C u (ρ.set i (.dat (.int (f a b)))) P) : BS C (tSeq (tAug i te (ipI f)) u) ρ P := b_seq (b_aug hi h s)
/-! ### lists of the def's own, changed -/
theorem msk_it (r : Rep C σ H ρ) (o : VOk C ρ Hs H v (.dat d)) : Dp C.K (msk C ρ H) v d := o
theorem b_appS (hi : ρ[i]? = some (.own l ds)) (h : EB C te ρ S) (s : ∀ z, S z → ds.length < sizeLine ∧ ∃ d, (z = .dat d ∨ ∃ es, z = .new es ∧ d = .list es) ∧ P.nx (ρ.set i (.own l (ds ++ [d])))) :
    BS C (tDrop (tBM C.K "list" rAppend (tVar i) (tCons te tNil))) ρ P := fun σ H r D pd => by
  obtain ⟨v, e, o⟩ := r.var hi rfl
  obtain ⟨rfl, ho, vs, h1, h2⟩ := o
  refine ⟨_, e, .inl ⟨rfl, vs, .inl (.inl h1)⟩, h σ H r _ fun k w H' s1 r1 o1 => ?_⟩
  obtain ⟨hz, d, hd, n⟩ := s k s1
  have r' := r.up r1
  obtain ⟨vs', h3, h4⟩ := r'.own_at hi
  have hw : Dp C.K (msk C ρ H') w d := by
    rcases hd with rfl | ⟨es, rfl, rfl⟩
    · exact o1
    · exact o1.frz r r1
  refine ⟨l, vs', w, rfl, rfl, h3, by rw [h4.length]; exact hz, pd.nx _ _ _ n (r'.wr hi (h4.append (.cons hw .nil)))⟩
theorem b_app (hi : ρ[i]? = some (.own l ds)) (h : E1 C te ρ (.dat d)) (hz : ds.length < sizeLine) (s : P.nx (ρ.set i (.own l (ds ++ [d])))) : BS C (tDrop (tBM C.K "list" rAppend (tVar i) (tCons te tNil))) ρ P :=
  b_appS hi h fun z e => ⟨hz, d, .inl e, s⟩
theorem q_app (hi : ρ[i]? = some (.own l ds)) (h : E1 C te ρ (.dat d)) (hz : ds.length < sizeLine) (s : BS C u (ρ.set i (.own l (ds ++ [d]))) P) : BS C (tSeq (tDrop (tBM C.K "list" rAppend (tVar i) (tCons te tNil))) u) ρ P := b_seq (b_app hi h hz s)
/-- a, b = xs.pop() -/
theorem b_pop2 {n : Nat} (hn : n ≠ j) (hi : ρ[i]? = some (.own l (ds ++ [.tuple [d, e]]))) (hnn : n ≠ i) (hji : j ≠ i) (s : P.nx (((ρ.set i (.own l ds)).set n (.dat d)).set j (.dat e))) :
    BS C (tAsg (tBM0 C.K "list" rPop (tVar i)) (gTup C.K 2 (gCons (gName n) (gCons (gName j) gNil)))) ρ P := fun σ H r D pd => by
  obtain ⟨v, ev, o⟩ := r.var hi rfl
  obtain ⟨rfl, ho, vs, h1, h2⟩ := o
  have hl := h2.length
  rw [List.length_append, List.length_singleton] at hl
  obtain ⟨w, hw, dw⟩ := h2.getd (i := ds.length) (d := .tuple [d, e]) (by simp)
  have hdl : DpAll C.K (msk C ρ H) vs.dropLast ds := by
    have q := h2.dropLast
    rw [List.dropLast_concat] at q
    exact q
  refine ⟨_, ev, .inl ⟨rfl, vs, .inl (.inl h1)⟩, l, vs, w, rfl, rfl, h1, by rw [hl]; exact hw, ?_⟩
  have r2 := r.wr hi hdl
  have dw2 := Dp.ex (msk_upd (C := C) (H := H) (es := ds) (o := .lst vs.dropLast) hi) dw
  obtain ⟨a, xs, rfl, h3, h4⟩ := dp_tup dw2
  cases h4 with
  | cons g1 g2 =>
    cases g2 with
    | cons g2 g3 =>
      cases g3
      refine ⟨a, _, rfl, Ext.t msk_le h3, rfl, _, _, rfl, _, _, rfl, rfl, ?_⟩
      refine pd.nx _ _ _ s ?_
      have r3 := r2.set_plain (i := n) (Hs := H) (k := .dat d) rfl g1
      exact r3.set_plain (i := j) (Hs := H) (k := .dat e) rfl (Dp.ex (msk_plain rfl) g2)
/-! ### loops -/
theorem b_while {T : List Kd → Bool → Prop} (I : Nat → List Kd → Prop) (m : Nat) (h0 : I m ρ) (ht : ∀ m ρ, I m ρ → ET C tt ρ (T ρ)) (he : ∀ m ρ, I m ρ → T ρ false → P.nx ρ)
    (hb : ∀ m ρ, I m ρ → T ρ true → BS C t ρ { nx := fun r => ∃ m', m' < m ∧ I m' r, ct := fun r => ∃ m', m' < m ∧ I m' r, bk := P.nx, rt := P.rt }) : BS C (tWhile tt t) ρ P := fun σ H r D pd => by
  refine ⟨fun m σ H => ∃ ρ, I m ρ ∧ Rep C σ H ρ, ⟨m, ρ, h0, r⟩, ?_⟩
  rintro m σ H ⟨ρ, hI, r⟩
  refine ht m ρ hI σ H r _ fun b H' s1 r1 => ?_
  cases b with
  | false => exact pd.nx ρ σ H' (he m ρ hI s1) (r.up r1)
  | true =>
    refine ⟨fun σ' H' => ∃ m', m' < m ∧ ∃ ρ, I m' ρ ∧ Rep C σ' H' ρ, fun σ' H' z => z, ?_⟩
    exact hb m ρ hI s1 σ H' (r.up r1) _ ⟨fun ρ σ H ⟨m', h1, h2⟩ r => ⟨m', h1, ρ, h2, r⟩, pd.rt, fun ρ σ H z r => pd.nx ρ σ H z r, fun ρ σ H ⟨m', h1, h2⟩ r => ⟨m', h1, ρ, h2, r⟩⟩
/-- a datum that must stand, on top -/
abbrev Ct.pin (C : Ct) (v : V) (d : PyData) : Ct := { C with pn := (v, d) :: C.pn }
theorem pin_ok {v : V} (ok : C.Ok) : (C.pin v d).Ok := ⟨ok.st, ok.ls, ok.j0, ok.hE⟩
theorem Rep.unpin {v : V} (r : Rep (C.pin v d) σ H ρ) (ok : C.Ok) : Rep C σ H ρ := ⟨ok, r.j, r.old, r.len, r.nd, r.fr, r.sl, fun p hp => r.pn p (List.mem_cons_of_mem _ hp)⟩
theorem Rep.pin (r : Rep C σ H ρ) {v : V} (h : Dp C.K (msk C ρ H) v d) : Rep (C.pin v d) σ H ρ := ⟨pin_ok r.ok, r.j, r.old, r.len, r.nd, r.fr, r.sl, fun p hp => by
  rcases List.mem_cons.mp hp with e | hp
  · rw [e]
    exact h
  · exact r.pn p hp⟩
/-- for x in a list, a tuple: the body is read for every context that pins what is walked -/
theorem b_for {tl : TE} (hl : E1 C tl ρ k) (e : k = .dat (.list ds) ∨ k = .dat (.tuple ds) ∨ k = .new ds) (I : Nat → List Kd → Prop) (h0 : I 0 ρ)
    (hb : ∀ v d' (n : Nat) (a : PyData) ρ, ds[n]? = some a → I n ρ → BS (C.pin v d') t (ρ.set j (.dat a)) { nx := I (n + 1), ct := I (n + 1), bk := P.nx, rt := P.rt }) (he : ∀ ρ, I ds.length ρ → P.nx ρ) :
    BS C (tFor (iAny C.K tl) (gName j) t) ρ P := fun σ H r D pd => by
  refine hl σ H r _ fun k' v H1 s1 r1 o1 => ?_
  subst s1
  have step : ∀ (d : PyData), Dp C.K (msk C ρ H1) v d → (d = .list ds ∨ d = .tuple ds) →
      ∀ (a : Addr) (J : It), v = .ref a →
      (∀ (H : Hp) (n : Nat), Dp C.K H v d → (ds.length ≤ n → J.stop n H) ∧ (n < ds.length → J.go n H) ∧ ∀ x H', J.yld n H x H' → n < ds.length → H' = H ∧ ∃ b, ds[n]? = some b ∧ ∀ M, Ext M H → Dp C.K M v d → Dp C.K M x b) →
      ∃ W : Nat → Nat → L2.St → Hp → Prop, (∃ m, W 0 m σ H1) ∧ ∀ i m σ H, W i m σ H →
        (J.stop i H ∧ D.nx σ H) ∨ (J.go i H ∧ ∃ N : L2.St → Hp → Prop, (∀ σ' H', N σ' H' → ∃ m', m' < m ∧ W (i + 1) m' σ' H') ∧ ∀ x H', J.yld i H x H' → gName j x σ H' fun σ2 H2 => t { D with nx := N, ct := N, bk := D.nx } σ2 H2) := by
    intro d hd hds a J ea hJ
    refine ⟨fun n m σ H => m = ds.length - n ∧ n ≤ ds.length ∧ ∃ ρ, I n ρ ∧ Rep (C.pin v d) σ H ρ, ⟨_, rfl, Nat.zero_le _, ρ, h0, (r.up r1).pin hd⟩, ?_⟩
    rintro n m σ H ⟨rfl, hn, ρ', hI, rp⟩
    have hv : Dp C.K (msk C ρ' H) v d := rp.pn (v, d) List.mem_cons_self
    obtain ⟨j1, j2, j3⟩ := hJ H n (Dp.ex msk_le hv)
    by_cases hlt : n < ds.length
    · refine .inr ⟨j2 hlt, fun σ' H' => ∃ ρ, I (n + 1) ρ ∧ Rep (C.pin v d) σ' H' ρ, fun σ' H' z => ⟨_, by omega, rfl, hlt, z⟩, fun x H' y => ?_⟩
      obtain ⟨eH, b, hb1, hb2⟩ := j3 x H' y hlt
      subst eH
      have hx : Dp C.K (msk (C.pin v d) ρ' H') x b := hb2 _ msk_le hv
      have rs := rp.set_plain (i := j) (Hs := H') (k := .dat b) rfl hx
      exact hb v d n b ρ' hb1 hI _ H' rs _ ⟨fun ρ σ H z r => ⟨ρ, z, r⟩, fun k v H z r => pd.rt k v H z r, fun ρ σ H z r' => pd.nx ρ σ H z (r'.unpin r.ok), fun ρ σ H z r => ⟨ρ, z, r⟩⟩
    · have en : n = ds.length := by omega
      subst en
      exact .inl ⟨j1 (Nat.le_refl _), pd.nx ρ' σ H (he ρ' hI) (rp.unpin r.ok)⟩
  have hd0 : ∃ d, Dp C.K (msk C ρ H1) v d ∧ (d = .list ds ∨ d = .tuple ds) := by
    rcases e with rfl | rfl | rfl
    · exact ⟨_, o1, .inl rfl⟩
    · exact ⟨_, o1, .inr rfl⟩
    · exact ⟨_, o1.frz r r1, .inl rfl⟩
  obtain ⟨d, hd, hds⟩ := hd0
  rcases hds with rfl | rfl
  · obtain ⟨a, xs, rfl, h1, h2⟩ := dp_lst hd
    refine .inl ⟨a, rfl, ⟨xs, Ext.l msk_le h1⟩, step _ hd (.inl rfl) a _ rfl fun H n q => ?_⟩
    obtain ⟨a', ys, ea, g1, g2⟩ := dp_lst q
    cases ea
    have gl := g2.length
    refine ⟨fun z => ⟨ys, g1, by omega⟩, fun z => ⟨ys, ys[n]'(by omega), g1, List.getElem?_eq_getElem _⟩, fun x H' y z => ?_⟩
    obtain ⟨eH, y2⟩ := y
    refine ⟨eH, ds[n], List.getElem?_eq_getElem _, fun M hM q2 => ?_⟩
    obtain ⟨a', zs, ea, f1, f2⟩ := dp_lst q2
    cases ea
    obtain ⟨u, hu1, hu2⟩ := f2.getd (i := n) (d := ds[n]) (List.getElem?_eq_getElem _)
    have e3 := y2 zs (Ext.l hM f1)
    rw [hu1] at e3
    rw [← Option.some.inj e3]
    exact hu2
  · obtain ⟨a, xs, rfl, h1, h2⟩ := dp_tup hd
    refine .inr (.inl ⟨a, rfl, ⟨xs, Ext.t msk_le h1⟩, step _ hd (.inr rfl) a _ rfl fun H n q => ?_⟩)
    obtain ⟨a', ys, ea, g1, g2⟩ := dp_tup q
    cases ea
    have gl := g2.length
    refine ⟨fun z => ⟨ys, g1, by omega⟩, fun z => ⟨ys, ys[n]'(by omega), g1, List.getElem?_eq_getElem _⟩, fun x H' y z => ?_⟩
    obtain ⟨eH, y2⟩ := y
    refine ⟨eH, ds[n], List.getElem?_eq_getElem _, fun M hM q2 => ?_⟩
    obtain ⟨a', zs, ea, f1, f2⟩ := dp_tup q2
    cases ea
    obtain ⟨u, hu1, hu2⟩ := f2.getd (i := n) (d := ds[n]) (List.getElem?_eq_getElem _)
    have e3 := y2 zs (Ext.t hM f1)
    rw [hu1] at e3
    rw [← Option.some.inj e3]
    exact hu2
/-- for x in range(..) -/
theorem b_forR {wi : TI} {lo : Int} {m : Nat} (hw : ∀ (σ : L2.St) (H : Hp), Rep C σ H ρ → ∀ W : It → Hp → Prop, (∀ H', R C H H' → W (Itr lo m) H') → wi σ H W) (I : Nat → List Kd → Prop) (h0 : I 0 ρ)
    (hb : ∀ (n : Nat) ρ, n < m → I n ρ → BS C t (ρ.set j (.dat (.int (lo + n)))) { nx := I (n + 1), ct := I (n + 1), bk := P.nx, rt := P.rt }) (he : ∀ ρ, I m ρ → P.nx ρ) :
    BS C (tFor wi (gName j) t) ρ P := fun σ H r D pd => by
  refine hw σ H r _ fun H1 r1 => ?_
  refine ⟨fun n m' σ H => m' = m - n ∧ n ≤ m ∧ ∃ ρ, I n ρ ∧ Rep C σ H ρ, ⟨_, rfl, Nat.zero_le _, ρ, h0, r.up r1⟩, ?_⟩
  rintro n m' σ H ⟨rfl, hn, ρ', hI, rp⟩
  by_cases hlt : n < m
  · refine .inr ⟨hlt, fun σ' H' => ∃ ρ, I (n + 1) ρ ∧ Rep C σ' H' ρ, fun σ' H' z => ⟨_, by omega, rfl, hlt, z⟩, fun x H' y => ?_⟩
    obtain ⟨eH, rfl⟩ := y
    subst eH
    exact hb n ρ' hlt hI _ H' (rp.set_plain (i := j) (Hs := H') (k := .dat (.int (lo + n))) rfl (.int _)) _ ⟨fun ρ σ H z r => ⟨ρ, z, r⟩, fun k v H z r => pd.rt k v H z r, fun ρ σ H z r' => pd.nx ρ σ H z r', fun ρ σ H z r => ⟨ρ, z, r⟩⟩
  · have en : n = m := by omega
    subst en
    exact .inl ⟨Nat.le_refl _, pd.nx ρ' σ H (he ρ' hI) rp⟩
theorem w_rng1 {ta : TA} {m : Int} (h : A1 C ta ρ [.dat (.int m)]) (h1 : -(2 ^ 62) ≤ m ∧ m < 2 ^ 62) : ∀ (σ : L2.St) (H : Hp), Rep C σ H ρ → ∀ W : It → Hp → Prop, (∀ H', R C H H' → W (Itr 0 m.toNat) H') → iRng1 ta σ H W := fun σ H r W q =>
  h σ H r _ fun ks vs H1 s1 r1 o1 => by
    subst s1
    obtain ⟨v, rfl, o2⟩ := o1.one
    obtain rfl := dp_int o2
    exact ⟨m, rfl, h1.1, h1.2, q H1 r1⟩
theorem w_rng2 {ta : TA} {a m : Int} (h : A1 C ta ρ [.dat (.int a), .dat (.int m)]) (h0 : -(2 ^ 62) ≤ a ∧ a < 2 ^ 62) (h1 : -(2 ^ 62) ≤ m ∧ m < 2 ^ 62) : ∀ (σ : L2.St) (H : Hp), Rep C σ H ρ → ∀ W : It → Hp → Prop, (∀ H', R C H H' → W (Itr a (m - a).toNat) H') → iRng2 ta σ H W := fun σ H r W q =>
  h σ H r _ fun ks vs H1 s1 r1 o1 => by
    subst s1
    obtain ⟨v, w, rfl, o2, o3⟩ := o1.two
    obtain rfl := dp_int o2
    obtain rfl := dp_int o3
    exact ⟨a, m, rfl, ⟨h0.1, h0.2, h1.1, h1.2⟩, q H1 r1⟩
end
end Mh
namespace Mh
open PySem L2 TL
/-! ### a def's promise, its body, its call -/
abbrev Zt := Value → List (Str × PyData) → Prop
abbrev At := List Kd → (Kd → Prop) → Zt → Prop
def SpF (K : PySem.W.Frag) (F : Addr → Prop) (J : Hp → Prop) (fr : Bool) (A : At) : Sp := fun vs H Q E => ∃ ks S Z, A ks S Z ∧ Rep ⟨K, F, J, H, fr, [], E, Z⟩ (vs.map some) H ks ∧ ∀ k v H', S k → ROk ⟨K, F, J, H, fr, [], E, Z⟩ v H' k → Q v H'
def noF : Addr → Prop := fun _ => False
def noJ : Hp → Prop := fun _ => True
def noZ : Zt := fun _ _ => False
/-- data alone: no list of others is changed -/
abbrev SpP (K : PySem.W.Frag) (A : At) : Sp := SpF K noF noJ false A
section
variable {C : Ct} {σ : L2.St} {H H' H1 H2 Hs : Hp} {ρ : List Kd} {v : V} {k x y z : Kd} {l : Addr} {d e : PyData} {ds es : List PyData} {ta tb te : TE} {tt : TT} {t u : TS} {i j : Nat} {S S1 S2 : Kd → Prop} {P P' : Po}
theorem own_app {n : Nat} {a : Addr} : Own (ρ ++ List.replicate n .un) a ↔ Own ρ a := by
  constructor
  · rintro ⟨i, ds, e⟩
    by_cases h : i < ρ.length
    · rw [List.getElem?_append_left h] at e
      exact ⟨i, ds, e⟩
    · rw [List.getElem?_append_right (by omega), List.getElem?_replicate] at e
      split at e <;> cases e
  · rintro ⟨i, ds, e⟩
    refine ⟨i, ds, ?_⟩
    rw [List.getElem?_append_left (List.getElem?_eq_some_iff.mp e).1]
    exact e
theorem msk_same {ρ' : List Kd} (h : ∀ a, Own ρ a ↔ Own ρ' a) : msk C ρ H = msk C ρ' H := by
  funext a
  unfold msk
  rw [propext (h a)]
theorem Rep.more (r : Rep C σ H ρ) (n : Nat) : Rep C (σ ++ List.replicate n none) H (ρ ++ List.replicate n .un) where
  ok := r.ok
  j := r.j
  old := r.old
  len := by rw [List.length_append, List.length_append, r.len, List.length_replicate, List.length_replicate]
  nd := fun a b l ds es ha hb => by
    have q : ∀ {a : Nat} {ds}, (ρ ++ List.replicate n .un)[a]? = some (Kd.own l ds) → ρ[a]? = some (Kd.own l ds) := fun {a ds} ha => by
      by_cases h : a < ρ.length
      · rw [List.getElem?_append_left h] at ha
        exact ha
      · rw [List.getElem?_append_right (by omega), List.getElem?_replicate] at ha
        split at ha <;> cases ha
    exact r.nd a b l ds es (q ha) (q hb)
  fr := fun l o => r.fr l (own_app.mp o)
  sl := fun i k e => by
    rw [← msk_same (ρ := ρ) fun a => own_app.symm]
    by_cases h : i < ρ.length
    · rw [List.getElem?_append_left h] at e
      have q := r.sl i k e
      rw [List.getD_eq_getElem?_getD, List.getElem?_append_left (by rw [r.len]; exact h), ← List.getD_eq_getElem?_getD]
      exact q
    · rw [List.getElem?_append_right (by omega), List.getElem?_replicate] at e
      split at e
      · cases e
        trivial
      · cases e
  pn := fun p hp => by
    rw [← msk_same (ρ := ρ) fun a => own_app.symm]
    exact r.pn p hp
theorem sp_body {K : PySem.W.Frag} {F : Addr → Prop} {J : Hp → Prop} {fr : Bool} {A : At} {vs : List V} {Q : VK} {E : XK} {N : List Str}
    (h : ∀ H E ks S Z, A ks S Z → ∀ n, ks.length + n = N.length ∨ N.length ≤ ks.length → BS ⟨K, F, J, H, fr, [], E, Z⟩ t (ks ++ List.replicate (N.length - ks.length) .un) { rt := S, nx := fun _ => S (.dat .none) }) (q : SpF K F J fr A vs H Q E) :
    t { nx := fun _ H' => Q .non H', rt := Q } (L2.start N vs) H := by
  obtain ⟨ks, S, Z, a, r, f⟩ := q
  have hl : vs.length = ks.length := by
    have := r.len
    rw [List.length_map] at this
    exact this
  have r2 := r.more (N.length - ks.length)
  have e : L2.start N vs = vs.map some ++ List.replicate (N.length - ks.length) none := by
    unfold L2.start
    rw [hl]
  rw [e]
  refine h H E ks S Z a (N.length - ks.length) (by omega) _ H r2 _ ⟨fun ρ σ H' z r' => ?_, fun k v H' z r' => f k v H' z r', fun _ _ _ z => False.elim z, fun _ _ _ z => False.elim z⟩
  exact f _ _ _ z ⟨⟨r'.j, r'.old⟩, .non⟩
/-! ### arguments -/
inductive ArgK (fr : Bool) : Kd → Kd → Prop where
  | dat {d : PyData} (n : fr = true → nl d = true) : ArgK fr (.dat d) (.dat d)
  | own {l : Addr} {ds : List PyData} (n : fr = false) : ArgK fr (.own l ds) (.dat (.list ds))
  | new {ds : List PyData} (n : fr = false) : ArgK fr (.new ds) (.dat (.list ds))
  | k {φ : Knd} (n : fr = false ∨ ∀ K H H' v, φ.ok K H v → φ.ok K H' v) : ArgK fr (.k φ) (.k φ)
inductive ArgsK (fr : Bool) : List Kd → List Kd → Prop where
  | nil : ArgsK fr [] []
  | cons {x y : Kd} {xs ys : List Kd} : ArgK fr x y → ArgsK fr xs ys → ArgsK fr (x :: xs) (y :: ys)
/-- the same world, or none -/
def SubW (C : Ct) (F : Addr → Prop) (J : Hp → Prop) : Prop := (F = C.F ∧ J = C.J) ∨ (F = noF ∧ J = noJ)
theorem SubW.le {F : Addr → Prop} {J : Hp → Prop} (w : SubW C F J) {a : Addr} (h : F a) : C.F a := by
  rcases w with ⟨rfl, _⟩ | ⟨rfl, _⟩
  · exact h
  · exact False.elim h
theorem arg_ok {fr : Bool} {F : Addr → Prop} {J : Hp → Prop} {E : XK} {Z : Zt} {ρ' : List Kd} (rs : Rep C σ Hs ρ) (q : R C Hs H) (w : SubW C F J) (no : ∀ a, ¬ Own ρ' a) (o : VOk C ρ Hs H v x) (h : ArgK fr x y) :
    SlOk C.K (msk ⟨C.K, F, J, H, fr, [], E, Z⟩ ρ' H) H (some v) y := by
  have rp := rs.up q
  have e1 : fr = false → Ext (msk C ρ H) (msk ⟨C.K, F, J, H, fr, [], E, Z⟩ ρ' H) := fun f a o q => by
    obtain ⟨h1, h2, h3, h4⟩ := msk_of q
    exact msk_mk h1 (no a) (fun z => h3 (w.le z)) fun z => by
      have z1 : fr = true := z.1
      rw [f] at z1
      cases z1
  have e2 : L2.Tx (msk C ρ H) (msk ⟨C.K, F, J, H, fr, [], E, Z⟩ ρ' H) := fun a xs q => by
    rcases q with q | ⟨ob, q⟩
    · obtain ⟨h1, h2, h3, h4⟩ := msk_of q
      exact .inl (msk_mk h1 (no a) (fun z => h3 (w.le z)) fun z => by
        have z2 := z.2.2
        rw [h1] at z2
        exact z2)
    · obtain ⟨h1, h2, h3, h4⟩ := msk_of q
      exact .inr ⟨ob, msk_mk h1 (no a) (fun z => h3 (w.le z)) fun z => by
        have z2 := z.2.2
        rw [h1] at z2
        exact z2⟩
  have lst : ∀ (l : Addr) vs, fr = false → (C.F l → False) → H l = some (.lst vs) → SqL C.K (msk ⟨C.K, F, J, H, fr, [], E, Z⟩ ρ' H) l vs := fun l vs f nF h =>
    .inl (.inl (msk_mk h (no l) (fun z => nF (w.le z)) fun z => by
      have z1 : fr = true := z.1
      rw [f] at z1
      cases z1))
  cases h with
  | @dat d n =>
    cases f : fr with
    | false =>
      subst f
      exact ⟨v, rfl, Dp.ex (e1 rfl) o⟩
    | true =>
      subst f
      exact ⟨v, rfl, Dp.tx e2 (n rfl) o⟩
  | own n =>
    subst n
    obtain ⟨rfl, h1, vs, h2, h3⟩ := o
    exact ⟨_, rfl, .lst (lst _ _ rfl (rp.nF h1) h2) (DpAll.ex (e1 rfl) h3)⟩
  | new n =>
    subst n
    obtain ⟨l, vs, rfl, h1, h2, h3⟩ := o
    exact ⟨_, rfl, .lst (lst _ _ rfl (fun f => rs.ok.al rs.j f h1) h2) (DpAll.ex (Ext.trans del_le (e1 rfl)) h3)⟩
  | @k φ n =>
    rcases n with n | n
    · subst n
      exact ⟨v, rfl, φ.up (e1 rfl) o⟩
    · exact ⟨v, rfl, n _ _ _ _ o⟩

theorem args_ok {fr : Bool} {F : Addr → Prop} {J : Hp → Prop} {E : XK} {Z : Zt} {ρ' : List Kd} (rs : Rep C σ Hs ρ) (q : R C Hs H) (w : SubW C F J) (no : ∀ a, ¬ Own ρ' a) : ∀ {vs : List V} {ks ks' : List Kd}, VsOk C ρ Hs H vs ks → ArgsK fr ks ks' →
    vs.length = ks'.length ∧ ∀ (i : Nat) k, ks'[i]? = some k → SlOk C.K (msk ⟨C.K, F, J, H, fr, [], E, Z⟩ ρ' H) H ((vs.map some).getD i none) k
  | _, _, _, .nil, .nil => ⟨rfl, fun i k e => by simp at e⟩
  | _, _, _, .cons o os, .cons h hs => by
    obtain ⟨h1, h2⟩ := args_ok (E := E) (Z := Z) rs q w no os hs
    refine ⟨by simp [h1], fun i k e => ?_⟩
    cases i with
    | zero =>
      cases e
      exact arg_ok rs q w no o h
    | succ i => exact h2 i k e
theorem args_own {fr : Bool} : ∀ {ks ks' : List Kd}, ArgsK fr ks ks' → ∀ a, ¬ Own ks' a
  | _, _, .nil, a => fun ⟨i, ds, e⟩ => by simp at e
  | _, _, .cons h hs, a => fun ⟨i, ds, e⟩ => by
    cases i with
    | zero => cases h <;> cases e
    | succ i => exact args_own hs a ⟨i, ds, e⟩
/-- behind a call -/
theorem call_back {fr : Bool} {F : Addr → Prop} {J : Hp → Prop} {E : XK} {Z : Zt} (rp : Rep C σ H1 ρ) (w : SubW C F J) (ro : ROk ⟨C.K, F, J, H1, fr, [], E, Z⟩ v H' k) : R C H1 H' ∧ VOk C ρ H1 H' v k := by
  obtain ⟨⟨j, kp⟩, rv⟩ := ro
  have kp : ∀ a o, H1 a = some o → ¬ F a → H' a = some o := kp
  have r1 : R C H1 H' := by
    rcases w with ⟨rfl, rfl⟩ | ⟨rfl, rfl⟩
    · exact ⟨j, kp⟩
    · refine ⟨rp.ok.st _ _ rp.j fun a f => ?_, fun a o h _ => kp a o h id⟩
      obtain ⟨xs, e⟩ := rp.ok.ls _ _ rp.j f
      rw [e, kp a _ e id]
  refine ⟨r1, ?_⟩
  have r2 := rp.up r1
  have e1 : Ext (fsh H1 F H') (msk C ρ H') := fun a o q => by
    obtain ⟨h1, h2, h3⟩ := fsh_of q
    have frs : H1 a = none ∨ ¬ isL (H' a) := by
      cases z : H1 a with
      | none => exact .inl rfl
      | some u => exact .inr fun l => h3 ⟨by rw [z]; exact Option.some_ne_none u, l⟩
    have isl : ∀ xs, H' a = some (.lst xs) → isL (H' a) := fun xs e => by
      rw [e]
      trivial
    refine msk_mk h1 (fun ⟨i, es, e⟩ => ?_) (fun f => ?_) fun z => ?_
    · obtain ⟨vs, g1, _⟩ := rp.own_at e
      obtain ⟨ws, g2, _⟩ := r2.own_at e
      rcases frs with z | z
      · rw [z] at g1
        cases g1
      · exact z (isl _ g2)
    · obtain ⟨ws, g2⟩ := rp.ok.ls _ _ r1.1 f
      rcases frs with z | z
      · exact rp.ok.al rp.j f z
      · exact z (isl _ g2)
    · rcases frs with y | y
      · exact z.2.1 (rp.h0 y)
      · exact y z.2.2
  cases k with
  | dat d => exact Dp.ex e1 rv
  | new ds =>
    obtain ⟨l, vs, rfl, h1, h2, h3⟩ := rv
    exact ⟨l, vs, rfl, h1, h2, DpAll.ex (del_ex e1) h3⟩
  | k φ => exact φ.up e1 rv
  | un => exact False.elim rv
  | own _ _ => exact False.elim rv
/-- f(e, ..) -/
theorem e_callM {sp : Sp} {F : Addr → Prop} {J : Hp → Prop} {fr : Bool} {A : At} {ta : TA} {E : XK} {PA : List Kd → Prop} (ha : EA C ta ρ PA) (w : SubW C F J) (hm : ∀ vs H Q, SpF C.K F J fr A vs H Q E → sp vs H Q E)
    (hA : ∀ ks, PA ks → ∃ ks' S', ArgsK fr ks ks' ∧ A ks' S' noZ ∧ ∀ k, S' k → S k) : EB C (tCall sp [] E ta) ρ S := fun σ H rp Q q => ha σ H rp _ fun ks vs H1 s1 r1 o1 => by
  obtain ⟨ks', S', h1, h2, h3⟩ := hA ks s1
  have no := args_own h1
  have rp1 := rp.up r1
  obtain ⟨g1, g2⟩ := args_ok (E := E) (Z := noZ) (ρ' := ks') rp r1 w no o1 h1
  refine hm _ _ _ ⟨ks', S', noZ, h2, ⟨⟨fun H H' j a => ?_, fun H a j f => ?_, ?_, fun _ _ _ _ _ z => False.elim z⟩, ?_, fun a o h _ => h, by rw [List.length_map, List.append_nil]; exact g1, fun a b l ds es ha => (no l ⟨a, ds, ha⟩).elim, fun l o => (no l o).elim, by rw [List.append_nil]; exact g2, fun p hp => by cases hp⟩, fun k v H' s2 ro => ?_⟩
  · rcases w with ⟨rfl, rfl⟩ | ⟨rfl, rfl⟩
    · exact rp.ok.st H H' j a
    · trivial
  · rcases w with ⟨rfl, rfl⟩ | ⟨rfl, rfl⟩
    · exact rp.ok.ls H a j f
    · exact False.elim f
  · rcases w with ⟨rfl, rfl⟩ | ⟨rfl, rfl⟩
    · exact rp1.j
    · trivial
  · rcases w with ⟨rfl, rfl⟩ | ⟨rfl, rfl⟩
    · exact rp1.j
    · trivial
  · obtain ⟨r2, o2⟩ := call_back rp1 w ro
    exact q k v H' (h3 k s2) (r1.trans r2) (o2.back rp.ok r1)
theorem e_call {F : Addr → Prop} {J : Hp → Prop} {fr : Bool} {A : At} {ta : TA} {E : XK} {PA : List Kd → Prop} (ha : EA C ta ρ PA) (w : SubW C F J)
    (hA : ∀ ks, PA ks → ∃ ks' S', ArgsK fr ks ks' ∧ A ks' S' noZ ∧ ∀ k, S' k → S k) : EB C (tCall (SpF C.K F J fr A) [] E ta) ρ S := e_callM ha w (fun _ _ _ h => h) hA
/-- a def of data alone, called -/
theorem e_callP {A : At} {ta : TA} {ks ks' : List Kd} {S' : Kd → Prop} {E : XK} (ha : A1 C ta ρ ks) (hk : ArgsK false ks ks') (hA : A ks' S' noZ) (hS : ∀ k, S' k → S k) : EB C (tCall (SpP C.K A) [] E ta) ρ S :=
  e_call ha (.inr ⟨rfl, rfl⟩) fun ks2 e => by
    subst e
    exact ⟨ks', S', hk, hA, hS⟩
theorem e_callW {A : At} {fr : Bool} {ta : TA} {ks ks' : List Kd} {S' : Kd → Prop} {E : XK} (ha : A1 C ta ρ ks) (hk : ArgsK fr ks ks') (hA : A ks' S' noZ) (hS : ∀ k, S' k → S k) : EB C (tCall (SpF C.K C.F C.J fr A) [] E ta) ρ S :=
  e_call ha (.inl ⟨rfl, rfl⟩) fun ks2 e => by
    subst e
    exact ⟨ks', S', hk, hA, hS⟩
end
end Mh
namespace Mh
open PySem L2 TL
/-! ### what a comprehension walks, and what it makes -/
structure ItY (C : Ct) (ρ : List Kd) (Hs : Hp) (J : It) (ds : List PyData) : Prop where
  stop : ∀ H n, R C Hs H → ds.length ≤ n → J.stop n H
  go : ∀ H n, R C Hs H → n < ds.length → J.go n H
  yld : ∀ H n x H', R C Hs H → n < ds.length → J.yld n H x H' → H' = H ∧ ∃ b, ds[n]? = some b ∧ Dp C.K (msk C ρ H) x b
def EI (C : Ct) (wi : TI) (ρ : List Kd) (ds : List PyData) : Prop :=
  ∀ (σ : L2.St) (H : Hp), Rep C σ H ρ → ∀ W : It → Hp → Prop, (∀ J H', R C H H' → ItY C ρ H' J ds → W J H') → wi σ H W
section
variable {C : Ct} {σ : L2.St} {H H' H1 H2 Hs : Hp} {ρ : List Kd} {v : V} {k x y z : Kd} {l : Addr} {d e : PyData} {ds es : List PyData} {ta tb te : TE} {tt : TT} {t u : TS} {i j : Nat} {S S1 S2 : Kd → Prop} {P P' : Po}
theorem ity_l {a : Addr} (up : ∀ H, R C Hs H → ∃ b xs, V.ref a = .ref b ∧ SqL C.K H b xs ∧ DpAll C.K (msk C ρ H) xs ds) : ItY C ρ Hs (Itl C.K a) ds where
  stop := fun H n r h => by
    obtain ⟨b, xs, e, h1, h2⟩ := up H r
    cases e
    exact ⟨xs, h1, by rw [h2.length]; exact h⟩
  go := fun H n r h => by
    obtain ⟨b, xs, e, h1, h2⟩ := up H r
    cases e
    have hl := h2.length
    exact ⟨xs, xs[n]'(by omega), h1, List.getElem?_eq_getElem _⟩
  yld := fun H n x H' r h y => by
    obtain ⟨b, xs, e, h1, h2⟩ := up H r
    cases e
    obtain ⟨u, g1, g2⟩ := h2.getd (i := n) (d := ds[n]) (List.getElem?_eq_getElem _)
    have q := y.2 xs h1
    rw [g1] at q
    cases q
    exact ⟨y.1, ds[n], List.getElem?_eq_getElem _, g2⟩
theorem ity_t {a : Addr} (up : ∀ H, R C Hs H → ∃ b xs, V.ref a = .ref b ∧ SqT C.K H b xs ∧ DpAll C.K (msk C ρ H) xs ds) : ItY C ρ Hs (Itt C.K a) ds where
  stop := fun H n r h => by
    obtain ⟨b, xs, e, h1, h2⟩ := up H r
    cases e
    exact ⟨xs, h1, by rw [h2.length]; exact h⟩
  go := fun H n r h => by
    obtain ⟨b, xs, e, h1, h2⟩ := up H r
    cases e
    have hl := h2.length
    exact ⟨xs, xs[n]'(by omega), h1, List.getElem?_eq_getElem _⟩
  yld := fun H n x H' r h y => by
    obtain ⟨b, xs, e, h1, h2⟩ := up H r
    cases e
    obtain ⟨u, g1, g2⟩ := h2.getd (i := n) (d := ds[n]) (List.getElem?_eq_getElem _)
    have q := y.2 xs h1
    rw [g1] at q
    cases q
    exact ⟨y.1, ds[n], List.getElem?_eq_getElem _, g2⟩
theorem i_list (hl : E1 C te ρ k) (e : datK k = some (.list ds)) : EI C (iAny C.K te) ρ ds := fun σ H r W q => hl σ H r _ fun k' v H1 s1 r1 o1 => by
  subst s1
  have up : ∀ H, R C H1 H → ∃ a xs, v = .ref a ∧ SqL C.K H a xs ∧ DpAll C.K (msk C ρ H) xs ds := fun H2 r2 => (o1.up r r2).lsq e
  obtain ⟨a, xs, rfl, h1, h2⟩ := up H1 (R.refl r1.1)
  exact .inl ⟨a, rfl, ⟨xs, h1⟩, q _ _ r1 (ity_l up)⟩
theorem i_tup (hl : E1 C te ρ (.dat (.tuple ds))) : EI C (iAny C.K te) ρ ds := fun σ H r W q => hl σ H r _ fun k' v H1 s1 r1 o1 => by
  subst s1
  have up : ∀ H, R C H1 H → ∃ a xs, v = .ref a ∧ SqT C.K H a xs ∧ DpAll C.K (msk C ρ H) xs ds := fun H2 r2 => by
    have o2 : VOk C ρ H H2 v (.dat (.tuple ds)) := o1.up r r2
    obtain ⟨a, xs, e1, h1, h2⟩ := dp_tup o2
    exact ⟨a, xs, e1, Ext.t msk_le h1, h2⟩
  obtain ⟨a, xs, rfl, h1, h2⟩ := up H1 (R.refl r1.1)
  exact .inr (.inl ⟨a, rfl, ⟨xs, h1⟩, q _ _ r1 (ity_t up)⟩)
def signs (z : Str) : List PyData := (TL.tl z).map fun c => .str ⟨#[c]⟩
theorem i_str {z : Str} (hl : E1 C te ρ (.dat (.str z))) : EI C (iAny C.K te) ρ (signs z) := fun σ H r W q => hl σ H r _ fun k' v H1 s1 r1 o1 => by
  subst s1
  obtain rfl := dp_str o1
  have hn : (signs z).length = z.cps.size := by simp [signs, TL.tl]
  refine .inr (.inr ⟨z, rfl, q _ _ r1 ⟨fun H n _ h => by rw [hn] at h; exact h, fun H n _ h => by rw [hn] at h; exact h, fun H n x H' _ h y => ?_⟩⟩)
  obtain ⟨e1, c, e2, rfl⟩ := y
  refine ⟨e1, .str ⟨#[c]⟩, ?_, .str _⟩
  show ((TL.tl z).map _)[n]? = _
  rw [List.getElem?_map, Array.getElem?_toList, e2]
  rfl
def intsL (lo : Int) (m : Nat) : List PyData := (List.range m).map fun n => .int (lo + (n : Nat))
theorem intsL_at {lo : Int} {m n : Nat} (h : n < m) : (intsL lo m)[n]? = some (.int (lo + (n : Nat))) := by
  unfold intsL
  rw [List.getElem?_map, List.getElem?_range h]
  rfl
theorem intsL_len (lo : Int) (m : Nat) : (intsL lo m).length = m := by simp [intsL]
theorem ity_r {lo : Int} {m : Nat} : ItY C ρ Hs (Itr lo m) (intsL lo m) := ⟨fun H n _ h => by rw [intsL_len] at h; exact h, fun H n _ h => by rw [intsL_len] at h; exact h, fun H n x H' _ h y => by
  rw [intsL_len] at h
  obtain ⟨e1, rfl⟩ := y
  exact ⟨e1, _, intsL_at h, .int _⟩⟩
theorem i_rng1 {ta : TA} {m : Int} (h : A1 C ta ρ [.dat (.int m)]) (h1 : -(2 ^ 62) ≤ m ∧ m < 2 ^ 62) : EI C (iRng1 ta) ρ (intsL 0 m.toNat) := fun σ H r W q => w_rng1 h h1 σ H r W fun H' r1 => q _ _ r1 ity_r
theorem i_rng2 {ta : TA} {a m : Int} (h : A1 C ta ρ [.dat (.int a), .dat (.int m)]) (h0 : -(2 ^ 62) ≤ a ∧ a < 2 ^ 62) (h1 : -(2 ^ 62) ≤ m ∧ m < 2 ^ 62) : EI C (iRng2 ta) ρ (intsL a (m - a).toNat) :=
  fun σ H r W q => w_rng2 h h0 h1 σ H r W fun H' r1 => q _ _ r1 ity_r
/-- a slot forgotten -/
theorem own_un {a : Addr} (h : Own (ρ.set i .un) a) : Own ρ a := by
  rcases own_set h with ⟨ds, e⟩ | h
  · cases e
  · exact h
theorem msk_un : Ext (msk C ρ H) (msk C (ρ.set i .un) H) := fun a o h => by
  obtain ⟨h1, h2, h3, h4⟩ := msk_of h
  exact msk_mk h1 (fun z => h2 (own_un z)) h3 h4
theorem Rep.set_un {o : Option V} (r : Rep C σ H ρ) : Rep C (σ.set i o) H (ρ.set i .un) where
  ok := r.ok
  j := r.j
  old := r.old
  len := by rw [List.length_set, List.length_set, r.len]
  nd := fun a b l ds es ha hb => by
    have q : ∀ {a : Nat} {ds}, (ρ.set i Kd.un)[a]? = some (Kd.own l ds) → ρ[a]? = some (Kd.own l ds) := fun {a ds} ha => by
      by_cases hj : i = a
      · subst hj
        by_cases hl : i < ρ.length
        · rw [List.getElem?_set_self hl] at ha
          cases ha
        · rw [List.getElem?_eq_none (by simpa using hl)] at ha
          cases ha
      · rw [List.getElem?_set_ne hj] at ha
        exact ha
    exact r.nd a b l ds es (q ha) (q hb)
  fr := fun l o => r.fr l (own_un o)
  sl := fun j k' e => by
    by_cases hj : i = j
    · subst hj
      by_cases hl : i < ρ.length
      · rw [List.getElem?_set_self hl] at e
        cases e
        trivial
      · rw [List.getElem?_eq_none (by simpa using hl)] at e
        cases e
    · rw [List.getElem?_set_ne hj] at e
      rw [getD_set_ne hj]
      exact (r.sl j k' e).ex msk_un fun _ _ _ => rfl
  pn := fun p hp => Dp.ex msk_un (r.pn p hp)
/-- what an element may be: data without lists, a new list of such -/
def EltK (N : PyData → Prop) : Kd → Prop
  | .dat d => nl d = true ∧ N d
  | .new ds => nlL ds = true ∧ N (.list ds)
  | _ => False
theorem dp_del {D : Addr} (n : nl d = true) (hD : ∀ xs, ¬ Rd (msk C ρ H) D (.tup xs)) (h : Dp C.K (msk C ρ H) v d) : Dp C.K (del D (msk C ρ H)) v d := Dp.tx (fun a xs q => by
  have na : a ≠ D := fun e => hD xs (e ▸ q)
  rcases q with q | ⟨o, q⟩
  · exact .inl (del_mk q na)
  · exact .inr ⟨o, del_mk q na⟩) n h
theorem dpl_del {D l : Addr} {vs : List V} (n : nlL ds = true) (hD : ∀ xs, ¬ Rd (msk C ρ H) D (.tup xs)) (h : DpAll C.K (del l (msk C ρ H)) vs ds) : DpAll C.K (del D (msk C ρ H)) vs ds := DpAll.tx (fun a xs q => by
  have q2 : Rd (msk C ρ H) a (.tup xs) := Ext.rd del_le q
  have na : a ≠ D := fun e => hD xs (e ▸ q2)
  rcases q2 with q | ⟨o, q⟩
  · exact .inl (del_mk q na)
  · exact .inr ⟨o, del_mk q na⟩) n h
def notOwn : Option Kd → Bool
  | some (.own _ _) => false
  | _ => true
theorem own_turn {a : PyData} {b : Addr} (h : notOwn ρ[j]? = true) : Own ((ρ.set j .un).set j (.dat a)) b ↔ Own ρ b := by
  constructor
  · intro z
    exact own_un (own_plain rfl z)
  · rintro ⟨i, es, e⟩
    have hj : j ≠ i := fun q => by
      subst q
      rw [e] at h
      cases h
    exact ⟨i, es, by rw [List.getElem?_set_ne hj, List.getElem?_set_ne hj]; exact e⟩
/-- [elt for x in .. if ..] -/
theorem e_lc {wi : TI} {T : PyData → Bool → Prop} (hw : EI C wi ρ ds) (hj : notOwn ρ[j]? = true) (I : Nat → List PyData → Prop) (h0 : I 0 []) (hz : ∀ n acc, I n acc → acc.length ≤ n) (hds : ds.length ≤ sizeLine)
    (ht : ∀ (n : Nat) a acc, ds[n]? = some a → I n acc → ET C tt ((ρ.set j .un).set j (.dat a)) (T a))
    (hf : ∀ (n : Nat) a acc, ds[n]? = some a → I n acc → T a false → I (n + 1) acc)
    (he : ∀ (n : Nat) a acc, ds[n]? = some a → I n acc → T a true → EB C te ((ρ.set j .un).set j (.dat a)) (EltK fun d => I (n + 1) (acc ++ [d]))) :
    EB C (tLc wi (gName j) tt te [j]) ρ fun z => ∃ acc, z = .new acc ∧ I ds.length acc := fun σ H r Q q => hw σ H r _ fun J H1 r1 y D hD => by
  have rp1 := r.up r1
  have nD : H D = none := r1.back r.ok hD
  have nDF : ¬ C.F D := fun f => r.ok.al r1.1 f hD
  -- the word
  let Wd : Nat → Hp → Prop := fun n H' => R C H1 H' ∧ ∃ acc vs, I n acc ∧ H' D = some (.lst vs) ∧ DpAll C.K (del D (msk C ρ H')) vs acc
  have noT : ∀ H' vs, H' D = some (.lst vs) → ∀ (ρ : List Kd) xs, ¬ Rd (msk C ρ H') D (.tup xs) := fun H' vs e ρ xs q => by
    rcases q with q | ⟨o, q⟩
    · rw [(msk_of q).1] at e
      cases e
    · rw [(msk_of q).1] at e
      cases e
  refine ⟨fun n m H' => m = ds.length - n ∧ n ≤ ds.length ∧ Wd n H', ⟨_, rfl, Nat.zero_le _, R.new r.ok r1.1 hD, [], [], h0, upd_same, .nil⟩, ?_⟩
  rintro n m H' ⟨rfl, hn, r2, acc, vs, hI, hDl, ha⟩
  by_cases hlt : n < ds.length
  · refine .inr ⟨y.go H' n r2 hlt, Wd (n + 1), fun H'' w => ⟨_, by omega, rfl, hlt, w⟩, fun xv Hx yl => ?_⟩
    obtain ⟨eH, a, ea, hx⟩ := y.yld H' n xv Hx r2 hlt yl
    subst eH
    have rw1 : Rep C (wipe σ [j]) Hx (ρ.set j .un) := (rp1.up r2).set_un
    have rs : Rep C ((wipe σ [j]).set j (some xv)) Hx ((ρ.set j .un).set j (.dat a)) := rw1.set_plain (Hs := Hx) (k := .dat a) rfl (Dp.ex msk_un hx)
    refine ⟨by simp [wipe, List.set_set], ?_⟩
    refine ht n a acc ea hI _ Hx rs _ fun b H3 tb r3 => ?_
    -- behind a step that keeps all, the list stands with what it holds
    have stand : ∀ H4, R C Hx H4 → R C H1 H4 ∧ H4 D = some (.lst vs) ∧ DpAll C.K (del D (msk C ρ H4)) vs acc := fun H4 r4 => ⟨r2.trans r4, r4.2 _ _ hDl nDF, DpAll.ex (del_ex (msk_up r4)) ha⟩
    cases b with
    | false =>
      rw [if_neg Bool.false_ne_true]
      obtain ⟨s1, s2, s3⟩ := stand H3 r3
      exact ⟨s1, acc, vs, hf n a acc ea hI tb, s2, s3⟩
    | true =>
      rw [if_pos rfl]
      refine he n a acc ea hI tb _ H3 (rs.up r3) _ fun k u H4 hk r4 o4 => ?_
      obtain ⟨s1, s2, s3⟩ := stand H4 (r3.trans r4)
      have em : ∀ H, msk C ((ρ.set j .un).set j (.dat a)) H = msk C ρ H := fun H => msk_same fun b => own_turn hj
      have nt := noT H4 vs s2
      have e5 : Ext (del D (msk C ρ H4)) (del D (msk C ρ (upd H4 D (.lst (vs ++ [u]))))) := fun b o z => by
        obtain ⟨z1, z2⟩ := del_of z
        obtain ⟨h1, h2, h3, h4⟩ := msk_of z1
        have e6 : upd H4 D (.lst (vs ++ [u])) b = some o := by rw [upd_ne z2]; exact h1
        exact del_mk (msk_mk e6 h2 h3 (by rw [e6, ← h1]; exact h4)) z2
      have fin : ∀ d', Dp C.K (del D (msk C ρ H4)) u d' → I (n + 1) (acc ++ [d']) → ∃ xs, H4 D = some (.lst xs) ∧ xs.length < sizeLine ∧ Wd (n + 1) (upd H4 D (.lst (xs ++ [u]))) := fun d' hd hI' => by
        have hlen := hz n acc hI
        have hl2 := s3.length
        refine ⟨vs, s2, by omega, ⟨r.ok.st _ _ s1.1 fun b f => upd_ne fun e => nDF (e ▸ f), fun b o z f => ?_⟩, acc ++ [d'], vs ++ [u], hI', upd_same, DpAll.ex e5 (s3.append (.cons hd .nil))⟩
        rw [upd_ne fun e => by rw [e, hD] at z; cases z]
        exact s1.2 b o z f
      cases k with
      | dat d' =>
        have o5 : Dp C.K (msk C ((ρ.set j .un).set j (.dat a)) H4) u d' := o4
        rw [em] at o5
        exact fin d' (dp_del hk.1 (nt ρ) o5) hk.2
      | new es =>
        obtain ⟨l, ws, rfl, g1, g2, g3⟩ := o4
        rw [em] at g3
        have nl : l ≠ D := fun e => by
          have z := (stand H3 r3).2.1
          rw [← e, g1] at z
          cases z
        refine fin (.list es) (.lst (.inl (.inl (del_mk (msk_mk g2 (fun ⟨i, fs, e⟩ => ?_) (fun f => (rs.up r3).ok.al r3.1 f g1) fun z => z.2.1 ?_) nl))) (dpl_del hk.1 (nt ρ) g3)) hk.2
        · obtain ⟨xs, g4, _⟩ := (rp1.up (r2.trans r3)).own_at e
          rw [g1] at g4
          cases g4
        · exact (rp1.up (r2.trans r3)).h0 g1
      | _ => exact False.elim hk
  · have en : n = ds.length := by omega
    subst en
    refine .inl ⟨y.stop H' _ r2 (Nat.le_refl _), q _ _ _ ⟨acc, rfl, hI⟩ (r1.trans r2) ⟨D, vs, rfl, nD, hDl, ha⟩⟩

theorem t_yes : T1 C tYes ρ true := fun σ H r Q q => q true H rfl (R.refl r.j)
theorem take_succ_of {a : PyData} {n : Nat} (h : ds[n]? = some a) : ds.take (n + 1) = ds.take n ++ [a] := by
  rw [List.take_succ, h]
  rfl
/-- [f(x) for x in ..] -/
theorem e_lcMap {wi : TI} (f : PyData → PyData) (hw : EI C wi ρ ds) (hj : notOwn ρ[j]? = true) (hds : ds.length ≤ sizeLine)
    (he : ∀ (n : Nat) a, ds[n]? = some a → E1 C te ((ρ.set j .un).set j (.dat a)) (.dat (f a)) ∧ nl (f a) = true) : E1 C (tLc wi (gName j) tYes te [j]) ρ (.new (ds.map f)) := by
  have q := e_lc (C := C) (tt := tYes) (T := fun _ b => b = true) hw hj (fun n acc => acc = (ds.take n).map f) rfl (fun n acc e => by rw [e, List.length_map, List.length_take]; omega) hds
    (fun n a acc _ _ => t_yes) (fun n a acc _ _ z => by cases z) (te := te) fun n a acc ea hI _ => by
      obtain ⟨h1, h2⟩ := he n a ea
      refine h1.imp fun k e => ?_
      subst e
      exact ⟨h2, by rw [hI, take_succ_of ea, List.map_append]; rfl⟩
  refine q.imp fun k ⟨acc, e, hI⟩ => ?_
  rw [e, hI, List.take_length]
/-- [f(x) for x in .. if p(x)] -/
theorem e_lcFil {wi : TI} (f : PyData → PyData) (p : PyData → Bool) (hw : EI C wi ρ ds) (hj : notOwn ρ[j]? = true) (hds : ds.length ≤ sizeLine)
    (ht : ∀ (n : Nat) a, ds[n]? = some a → T1 C tt ((ρ.set j .un).set j (.dat a)) (p a))
    (he : ∀ (n : Nat) a, ds[n]? = some a → p a = true → E1 C te ((ρ.set j .un).set j (.dat a)) (.dat (f a)) ∧ nl (f a) = true) : E1 C (tLc wi (gName j) tt te [j]) ρ (.new ((ds.filter p).map f)) := by
  have q := e_lc (C := C) (tt := tt) (T := fun a b => b = p a) hw hj (fun n acc => acc = ((ds.take n).filter p).map f) rfl (fun n acc e => by
      rw [e, List.length_map]
      exact Nat.le_trans (List.length_filter_le _ _) (by rw [List.length_take]; omega)) hds
    (fun n a acc ea _ => ht n a ea) (fun n a acc ea hI z => by
      rw [hI, take_succ_of ea, List.filter_append]
      simp [← z]) (te := te) fun n a acc ea hI z => by
      obtain ⟨h1, h2⟩ := he n a ea z.symm
      refine h1.imp fun k e => ?_
      subst e
      exact ⟨h2, by rw [hI, take_succ_of ea, List.filter_append]; simp [← z]⟩
  refine q.imp fun k ⟨acc, e, hI⟩ => ?_
  rw [e, hI, List.take_length]
end
end Mh
namespace Mh
open PySem PySem.Spec PyProof.Rows L2 TL
/-! ### defs that want to know that no repr runs around them (g) -/
structure FnG (P : Program) (w : World) (K : PySem.W.Frag) (mg : Str → Option Value) (base : Heap) (CX : CXT) (g : Bool) (k : Nat) (f : Addr) (fd : FuncData) (ps : List Str) (sp : Sp) : Prop where
  len : ∀ vs H Q E, sp vs H Q E → vs.length = ps.length
  run : ∀ (A : Around) (outer : List Env) (s : Shared) (H : Hp) (args : Args) (us : List Value) (vs : List V) (Q : VK) (E : XK), Room k A → (g = true → A.guards = some []) → Env0 P w K mg base A outer s H →
    BindsTo s fd args (ps.zip us) → Vals vs us → sp vs H Q E → codeAny (model P w) A (.call (.ref f) args) (CR CX outer P w H s Q E) s
section
variable {P : Program} {w : World} {K : PySem.W.Frag} {mg : Str → Option Value} {base : Heap} {CX : CXT} {g : Bool} {k : Nat} {f : Addr} {fd : FuncData} {ps N : List Str} {sp : Sp}
theorem FnG.of_ok (F : FnOk P w K mg base CX k f fd ps sp) : FnG P w K mg base CX g k f fd ps sp := ⟨F.len, fun A outer s H args us vs Q E hr _ => F.run A outer s H args us vs Q E hr⟩
theorem FnG.mono {j : Nat} (F : FnG P w K mg base CX g j f fd ps sp) (h : j ≤ k) : FnG P w K mg base CX g k f fd ps sp := ⟨F.len, fun A outer s H args us vs Q E hr => F.run A outer s H args us vs Q E (hr.mono h)⟩
/-- a def by its body -/
theorem fnG {name qual : Str} {params : Arguments} {body : List Stmt} {scope : Scope} {dV kV doc pm cdv ct oc : Value} {an od : Option Addr} {osl : Array (Option Value)}
    (there : K.lookup f = some ⟨oc, od, .func (PySem.W.fnOf name qual params body scope dV kV doc pm an cdv ct), osl⟩) (code : PySem.W.codeIn K cdv qual = true) (sc : FnScope N ps scope) (len : ∀ vs H Q E, sp vs H Q E → vs.length = ps.length)
    (hb : ∀ (A : Around) (outer : List Env) (s : Shared) (H : Hp) (vs : List V) (Q : VK) (E : XK), Room k (A.deeper (envOfC qual scope s.heap.objs.size f cdv)) → (g = true → (A.deeper (envOfC qual scope s.heap.objs.size f cdv)).guards = some []) → sp vs H Q E →
      ∃ t, PSs (cxOf CX P w K mg base N qual scope f cdv A outer s H E) body t ∧ t { nx := fun _ H' => Q .non H', rt := Q } (L2.start N vs) H) :
    FnG P w K mg base CX g (k + 1) f (PySem.W.fnOf name qual params body scope dV kV doc pm an cdv ct) ps sp := ⟨len, fun A outer s H args us vs Q E room gd env bind vals prom => by
  have size := len _ _ _ _ prom
  have stands : K.In s.heap := env.mod.kin.keeps fun a o e => (env.bs a o e).1
  have free : s.heap.NoLimit := env.mod.nolimit.keeps fun a o e => (env.bs a o e).1
  have kinds : ∀ y ∈ ps.zip us, scope.names.lookup y.1 = some .local ∨ (scope.names.lookup y.1 = some .cell ∧ ((cellsFrom (s.heap.objs.size + 1) scope.names []).lookup y.1).isSome = true) := by
    rintro ⟨n, u⟩ hy
    exact (sc.par n (List.of_mem_zip hy).1).imp id fun q => ⟨q, PySem.W.cellsFrom_some _ _ _ (.inl q)⟩
  refine codeAny_call_function room.depth (stands _ _ there) rfl sc.co sc.gen rfl (PySem.W.codeRec_of stands code) (bind _ _ _ _ (wpAny_newFunctionEnv_cells sc.kind kinds fun env' same s1 entered => ?_))
  subst same
  obtain ⟨t, body', reads⟩ := hb A outer s H vs Q E (room.deeper _) gd prom
  have I0 : Inv (cxOf CX P w K mg base N qual scope f cdv A outer s H E) [] (L2.start N vs) H s1 := inv_start sc room.hd env size vals entered
  refine ⟨free.keeps entered.toInCall.keep, codeAny_func (wpAny_mono (body'.run [] s1 (L2.start N vs) H _ I0 reads) (fun flow s' out => ?_) fun _ _ out => out)⟩
  cases flow with
  | next =>
    obtain ⟨_, H', J, q⟩ := out
    exact ⟨.non, H', J.os, J.bare, J.base, J.hok, rfl, q⟩
  | ret u =>
    obtain ⟨v, _, H', J, rv, q⟩ := out
    exact ⟨v, H', J.os, J.bare, J.base, J.hok, rv, q⟩
  | brk => exact out.choose_spec.choose_spec.2.elim
  | cont => exact out.choose_spec.choose_spec.2.elim⟩
end
section
variable {X : Cx} {CX : CXT} {g : Bool} {k : Nat} {f C : Addr} {fd : FuncData} {ps : List Str} {sp : Sp} {E : XK} {x : Str} {p pos : Pos} {e : Expr} {es : List Expr} {t : TA}
theorem run_g {pins : List (Addr × Obj)} {σ : L2.St} {H : Hp} {s : Shared} {Q : VK} {us : List Value} {vs : List V} (F : FnG X.prog X.w X.K X.mg X.base CX g k f fd ps sp) (room : Room k X.A) (gd : g = true → X.A.guards = some []) (bind : Binds X.K fd ps [])
    (pass : Passes CX X E) (I : Inv X pins σ H s) (vals : Vals vs us) (prom : sp (vs ++ []) H Q E) : wpAny (model X.prog X.w) X.A (call (.ref f) us) (EP X pins σ Q) X.xe s := by
  rw [List.append_nil] at prom
  have size : (us ++ []).length = ps.length := by rw [List.append_nil, ← vals.length]; exact F.len _ _ _ _ prom
  have b := bind s us I.kIn size
  rw [List.append_nil] at b
  refine wpAny_call (codeAny_mono (F.run X.A X.stack s H ⟨us, []⟩ us vs Q E room gd I.env0 b vals prom) fun out s' h => ?_)
  match out, h with
  | .error err, h => exact pass pins σ H s err s' I h
  | .ok (.ret u), h => exact I.after h
/-- a name that stands for a def with a promise -/
structure Cl (P : Program) (w : World) (K : PySem.W.Frag) (mg : Str → Option Value) (base : Heap) (CX : CXT) (g : Bool) (x : Str) (k : Nat) (ps : List Str) (sp : Sp) : Prop where
  ex : ∃ f fd, FnG P w K mg base CX g k f fd ps sp ∧ mg x = some (.ref f) ∧ PySem.W.keepIn K (.ref f) = true ∧ Binds K fd ps []
theorem pe_cl (c : Cl X.prog X.w X.K X.mg X.base CX g x k ps sp) (room : Room k X.A) (gd : g = true → X.A.guards = some []) (pass : Passes CX X E) (gl : Gl X x) (args : PA X (e :: es) t) (h1 : (x == ("__debug__" : Str)) = false := by decide)
    (h2 : starEach (e :: es) X.env = (false, eval e X.env) :: starEach es X.env := by rfl) (h3 : (backTo pos (starEach es X.env)).any (·.1) = false := by rfl) : PE X (.Call (.Name x p) (e :: es) [] pos) (tCall sp [] E t) := ⟨fun pins s σ H Q I want => by
  obtain ⟨f, fd, F, m, keep, bind⟩ := c.ex
  refine wpAny_Call_Name_kw (ld_glob I gl m (PySem.W.callWith_K (h₀ := X.base) I.ok.mod.kin keep (thn (args.run pos pins s σ H _ I want) ?_) h2 h3) h1)
  rintro us s1 ⟨vs, H1, I1, vals, prom⟩
  exact ⟨I1.kIn, run_g F room gd bind pass I1 vals prom⟩⟩
theorem pe_cl0 (c : Cl X.prog X.w X.K X.mg X.base CX g x k ps sp) (room : Room k X.A) (gd : g = true → X.A.guards = some []) (pass : Passes CX X E) (gl : Gl X x) (h1 : (x == ("__debug__" : Str)) = false := by decide) : PE X (.Call (.Name x p) [] [] pos) (tCall sp [] E tNil) := ⟨fun pins s σ H Q I want => by
  obtain ⟨f, fd, F, m, keep, bind⟩ := c.ex
  exact wpAny_Call_Name_kw (ld_glob I gl m (PySem.W.callWith_K0 I.kIn keep (run_g (us := []) F room gd bind pass I .nil want)) h1)⟩
end
section
variable {P : Program} {w : World} {K : PySem.W.Frag} {mg : Str → Option Value} {base : Heap} {CX : CXT} {g : Bool} {k : Nat} {f : Addr} {fd : FuncData} {ps N : List Str} {sp : Sp} {x qual : Str} {params : Arguments} {body : List Stmt} {scope : Scope}
theorem fn_ofG (F : FunD K x qual params body scope [] [] f fd) (sc : FnScope N ps scope) (len : ∀ vs H Q E, sp vs H Q E → vs.length = ps.length)
    (hb : ∀ (cdv : Value) (A : Around) (outer : List Env) (s : Shared) (H : Hp) (vs : List V) (Q : VK) (E : XK), Room k (A.deeper (envOfC qual scope s.heap.objs.size f cdv)) → (g = true → (A.deeper (envOfC qual scope s.heap.objs.size f cdv)).guards = some []) → sp vs H Q E →
      ∃ t, PSs (cxOf CX P w K mg base N qual scope f cdv A outer s H E) body t ∧ t { nx := fun _ H' => Q .non H', rt := Q } (L2.start N vs) H) : FnG P w K mg base CX g (k + 1) f fd ps sp := by
  obtain ⟨oc, od, dV, kV, doc, pm, an, cdv, ct, osl, rfl, there, code, _, _⟩ := F.ex
  exact fnG there code sc len fun A outer s H vs Q E room gd prom => hb cdv A outer s H vs Q E room gd prom
/-- THE RULE: a def without defaults, by its body -/
theorem cl_of (F : FunD K x qual params body scope [] [] f fd) (m : mg x = some (.ref f)) (sc : FnScope N ps scope) (len : ∀ vs H Q E, sp vs H Q E → vs.length = ps.length)
    (bind : ∀ (kV doc pm : Value) (an : Option Addr) (cdv ct : Value) (us : List Value), us.length = ps.length → bindArgs (PySem.W.fnOf x qual params body scope .none kV doc pm an cdv ct) ⟨us, []⟩ = pure (ps.zip us))
    (hb : ∀ (cdv : Value) (A : Around) (outer : List Env) (s : Shared) (H : Hp) (vs : List V) (Q : VK) (E : XK), Room k (A.deeper (envOfC qual scope s.heap.objs.size f cdv)) → (g = true → (A.deeper (envOfC qual scope s.heap.objs.size f cdv)).guards = some []) → sp vs H Q E →
      ∃ t, PSs (cxOf CX P w K mg base N qual scope f cdv A outer s H E) body t ∧ t { nx := fun _ H' => Q .non H', rt := Q } (L2.start N vs) H) : Cl P w K mg base CX g x (k + 1) ps sp := by
  have b : Binds K fd ps [] := F.bindsN bind
  have kp := F.kp
  obtain ⟨oc, od, dV, kV, doc, pm, an, cdv, ct, osl, rfl, there, code, _, _⟩ := F.ex
  exact ⟨f, _, fnG there code sc len fun A outer s H vs Q E room gd prom => hb cdv A outer s H vs Q E room gd prom, m, kp, b⟩
/-! ### the law's def, from outside -/
theorem law_runs {mb : Str → Option Value} {fa a : Addr} {x : Str} {s₁ : Shared} {vs : List Value} {ns : List Int} (stands : K.In s₁.heap) (glob : s₁.heap.Ns mainGlobals mg) (blt : s₁.heap.Ns builtinsNs mb) (bltIs : ∀ x : Str, x ≠ "__name__" → mb x = bootBuiltins x)
    (free : s₁.heap.NoLimit) (noGen : s₁.gens = #[]) (scr : s₁.heap.get? a = some { cls := .type "list", data := .seq vs.toArray }) (are : IntsAre vs ns) (short : ns.length ≤ sizeLine) (room : Room k callerA)
    (F : ∀ base : Heap, K.In base → base.Ns mainGlobals mg → FnG P w K mg base CX g k fa fd [x] sp) (bind : ∀ (s : Shared) (u : Value), BindsTo s fd ⟨[u], []⟩ [(x, u)])
    (prom : ∀ H : Hp, Only H → SqL K H a (ns.map V.int) → sp [.ref a] H (fun v _ => v = .bl true) fun _ _ _ => False) (never : ∀ H e s', CX [] H s₁ (fun _ _ _ => False) e s' → False) :
    codeAny (model P w) callerA (.call (.ref fa) ⟨[.ref a], []⟩) (fun r s' => r = .ok (.ret (.bool true)) ∧ OldK s₁.heap s'.heap ∧ s'.os = s₁.os ∧ AllBare s'.gens) s₁ := by
  have vals := L2.vals_ints are
  have many := are.length
  -- the abstract heap: nothing, or the script alone
  have go : ∀ H : Hp, Only H → SqL K H a (ns.map V.int) → HOk P w H s₁.heap → (∀ b, H b ≠ none → b = a ∧ K.lookup a = none) →
      codeAny (model P w) callerA (.call (.ref fa) ⟨[.ref a], []⟩) (fun r s' => r = .ok (.ret (.bool true)) ∧ OldK s₁.heap s'.heap ∧ s'.os = s₁.os ∧ AllBare s'.gens) s₁ := fun H only seq held alone => by
    have out : ∀ {b : Addr}, (b ≠ a ∨ ∃ o, K.lookup b = some o) → H b = none := fun {b} h => by
      cases e : H b with
      | none => rfl
      | some u =>
        obtain ⟨h1, h2⟩ := alone b (by rw [e]; exact Option.some_ne_none u)
        rcases h with h | ⟨o, h⟩
        · exact absurd h1 h
        · rw [h1, h2] at h
          cases h
    have ns : ∀ {b : Addr} {m : Str → Option Value}, s₁.heap.Ns b m → (hidT s₁.heap H).Ns b m := fun {b m} h => by
      obtain ⟨o, es, ep, h1, h2, h3⟩ := h
      refine ⟨o, es, ep, hidT_get h1 (out (.inl fun e => ?_)), h2, h3⟩
      rw [e, scr] at h1
      cases h1
      have h2' : Data.seq vs.toArray _ = Data.dict es ep := h2
      cases h2'
    have standsB : K.In (hidT s₁.heap H) := fun b o e => hidT_get (stands b o e) (out (.inr ⟨o, e⟩))
    have env : Env0 P w K mg (hidT s₁.heap H) callerA [] s₁ H := {
      frames := rfl
      mod := ⟨standsB, ns glob, ⟨mb, ns blt, bltIs⟩, free.imp fun mc h => ⟨ns h.1, h.2⟩⟩
      bs := fun b o e => of_hidT e
      bsz := Nat.le_of_eq (hidT_size _ _)
      funs := trivial
      frf := fun b hb => by cases hb
      hok := held
      bare := .of_eq noGen }
    refine codeAny_mono ((F _ standsB (ns glob)).run callerA [] s₁ H ⟨[.ref a], []⟩ [.ref a] [.ref a] _ _ room (fun _ => rfl) env (bind s₁ (.ref a)) (.cons rfl .nil) (prom H only seq)) fun r s' h => ?_
    match r, h with
    | .error e, h => exact (never H e s' h).elim
    | .ok (.ret u), h =>
      obtain ⟨v, H', os, bare, un, held', rel, q⟩ := h
      have q : v = .bl true := q
      subst q
      have rel : u = Value.bool true := rel
      refine ⟨by rw [rel], OldK.of_keep fun b o e => ?_, os, bare⟩
      rcases only b with z | ⟨ob, xs, z⟩
      · exact un.keep b o e z (fun y => by cases y) (fun y => by cases y)
      · have h1 := (held b _ z).1
        have h2 := (held' b _ (un.frzs b ob _ z)).1
        rw [h1] at e
        cases e
        exact h2
  cases own : K.lookup a with
  | some o =>
    have same := stands a o own
    rw [scr] at same
    cases same
    exact go (fun _ => none) (fun _ => .inl rfl) (.inr ⟨_, vs.toArray, _, own, rfl, rfl, rfl, by rw [List.size_toArray, many]; exact short, by simpa using vals⟩) (fun b u z => by cases z) fun b z => absurd rfl z
  | none =>
    refine go (fun b => if b = a then some (.frz { cls := .type "list", data := .seq vs.toArray } (.lst (ns.map V.int))) else none) (fun b => ?_) (.inl (.inr ⟨_, if_pos rfl⟩)) (fun b u z => ?_) fun b z => ?_
    · by_cases hb : b = a
      · exact .inr ⟨_, _, if_pos hb⟩
      · exact .inl (if_neg hb)
    · by_cases hb : b = a
      · subst hb
        have z := Option.some.inj ((if_pos rfl).symm.trans z)
        subst z
        exact ⟨scr, by rw [List.length_map]; exact short, vs, _, vals, scr⟩
      · have z := (if_neg hb).symm.trans z
        cases z
    · by_cases hb : b = a
      · exact ⟨hb, own⟩
      · exact absurd (if_neg hb) z
theorem walk_g {l : PySem.W.OpenLaw} {n k : Nat} {q : Program} {loose : List Str} {XP : (Str → Option Value) → Heap → Prop} {YP : World → Heap → Prop} {d : DefRec} {CX : CXT} {x : Str} (most : l.most = some n) (short : n ≤ sizeLine) (plain : d.params.defaults = []) (room : Room k callerA)
    (F : ∀ (w : World) (mg : Str → Option Value) (fa : Addr) (h : Heap), YP w h → h.Ns mainGlobals mg → mg d.name = some (.ref fa) →
      ∃ (K : PySem.W.Frag) (fd : FuncData) (sp : Sp), K.In h ∧ (∀ (s : Shared) (u : Value), BindsTo s fd ⟨[u], []⟩ [(x, u)]) ∧
        (∀ (H : Hp) (a : Addr) (ns : List Int), ns.length ≤ n → (∀ z ∈ ns, Builtin.Int.intBits z ≤ 1048576) → Only H → SqL K H a (ns.map V.int) → sp [.ref a] H (fun v _ => v = .bl true) fun _ _ _ => False) ∧
        ∀ base : Heap, K.In base → base.Ns mainGlobals mg → FnG l.prog w K mg base CX g k fa fd [x] sp)
    (never : ∀ (H : Hp) (s : Shared) (e : Value) (s' : Shared), CX [] H s (fun _ _ _ => False) e s' → False) : PySem.W.WalkO q loose XP YP l.row.toRowW d [] (fun f vs => PySem.call f vs) :=
  Att.attach_callB most plain fun w s₀ s₁ mg mb fa o pm cd doc a vs ns G Y _ _ _ isF scr are len bits noGen => by
    obtain ⟨K, fd, sp, stands, bind, prom, hF⟩ := F w mg fa _ Y G.T.g isF
    exact law_runs stands G.T.g G.T.b G.T.builtins G.T.nolimit noGen scr are (Nat.le_trans len short) room hF bind (fun H only seq => prom H a ns len bits only seq) fun H e s' => never H s₁ e s'
end
end Mh
namespace Mh
open PySem PySem.Spec PyProof.Rows L2 TL
/-! ### repr of data -/
mutual
def rlen : PyData → Nat
  | .none => 4
  | .bool _ => 5
  | .int i => ((toString i : String) : Str).length
  | .str x => 10 * x.length + 2
  | .list xs => rlenAll xs + 3
  | .tuple xs => rlenAll xs + 3
  | .dict _ => 0
def rlenAll : List PyData → Nat
  | [] => 0
  | x :: xs => rlen x + 2 + rlenAll xs
end
theorem strOk_lt {x : Str} (h : PyData.strOk x = true) : ∀ c ∈ x.cps.toList, c < 16 ^ 8 := fun c hc => by
  unfold PyData.strOk at h
  rw [Array.all_eq_true_iff_forall_mem] at h
  have q := h c (by simpa using hc)
  have q2 : c < 0x110000 := by simpa using q
  omega
mutual
theorem shown_len : ∀ d : PyData, d.canLay0 = true → d.shown.length ≤ rlen d
  | .none, _ => by
    rw [PyData.shown_none, rlen]
    decide
  | .bool b, _ => by
    rw [PyData.shown_bool, rlen]
    cases b <;> decide
  | .int i, _ => by
    rw [PyData.shown_int, rlen]
    exact Nat.le_refl _
  | .str x, h => by
    rw [PyData.shown_str, rlen]
    exact StrLaws.reprText_len x (strOk_lt (by simpa [PyData.canLay0] using h))
  | .list xs, h => by
    have q := shownAll_len xs (by simpa [PyData.canLay0] using h)
    have q2 := listText_len_le (PyData.shownAll xs)
    rw [PyData.shownAll_length] at q2
    rw [rlen]
    simp only [PyData.shown]
    omega
  | .tuple xs, h => by
    have q := shownAll_len xs (by simpa [PyData.canLay0] using h)
    have q2 := tupleText_len_le (PyData.shownAll xs)
    rw [PyData.shownAll_length] at q2
    rw [rlen]
    simp only [PyData.shown]
    omega
  | .dict _, h => by simp [PyData.canLay0] at h
theorem shownAll_len : ∀ ds : List PyData, PyData.canLayAll0 ds = true → ((PyData.shownAll ds).map (·.length)).sum + 2 * ds.length ≤ rlenAll ds
  | [], _ => by simp [PyData.shownAll, rlenAll]
  | x :: xs, h => by
    have h2 : x.canLay0 = true ∧ PyData.canLayAll0 xs = true := by simpa [PyData.canLayAll0] using h
    have q1 := shown_len x h2.1
    have q2 := shownAll_len xs h2.2
    simp only [PyData.shownAll, rlenAll, List.map_cons, List.sum_cons, List.length_cons]
    omega
end
/-- what may be shown -/
structure ShOk (d : PyData) : Prop where
  sh : SeqAt.shaped d = true
  nums : d.showable = true
  len : rlen d ≤ 1000000
theorem ShOk.text {d : PyData} (h : ShOk d) : d.shown.length ≤ sizeLine := Nat.le_trans (shown_len d (SeqAt.canLay_of_shaped h.sh)) (Nat.le_trans h.len (by decide))
def rReprD (K : PySem.W.Frag) : List V → Hp → VK → Prop := fun xs H Q => ∃ x d, xs = [x] ∧ Dp K H x d ∧ ShOk d ∧ Q (.str d.shown) H
theorem call_reprD {X : Cx} (hu : X.A.units + 70 < cLine) (hg : X.A.guards = some []) : CallR X (.builtin "repr") (rReprD X.K) := by
  intro pins s σ H xs us Q I r h
  obtain ⟨x, d, rfl, hd, ok, q⟩ := h
  obtain ⟨u, rfl, ru⟩ := vals1 r
  have fin : ∀ (h' : Heap) (t : Tok) (tk : Nat), (∀ b o, s.heap.get? b = some o → h'.get? b = some o) → EP X pins σ Q (.str d.shown t) { s with heap := h', toks := tk } := fun h' t tk k => ⟨.str d.shown, H, I.kept (t' := tk) k, ⟨t, rfl⟩, q⟩
  have keep0 : ∀ b o, s.heap.get? b = some o → s.heap.get? b = some o := fun _ _ e => e
  cases x with
  | non =>
    cases hd
    cases ru
    refine PySem.P.repr_of_none ?_
    have z := fin s.heap s.toks (s.toks + 1) keep0
    rw [PyData.shown_none] at z
    exact z
  | bl b =>
    cases hd
    cases ru
    refine PySem.P.repr_of_bool ?_
    have z := fin s.heap s.toks (s.toks + 1) keep0
    rw [PyData.shown_bool] at z
    cases b <;> exact z
  | int i =>
    cases hd
    obtain ⟨t, rfl⟩ := ru
    have hn : i.natAbs.log2 < 1920 := by simpa [PyData.showable] using ok.nums
    refine PySem.P.repr_of_int hn ?_
    have z := fin s.heap s.toks (s.toks + 1) keep0
    rw [PyData.shown_int] at z
    exact z
  | str y =>
    cases hd
    obtain ⟨t, rfl⟩ := ru
    have hl := ok.text
    rw [PyData.shown_str] at hl
    refine PySem.P.repr_of_str ?_ hl
    have z := fin s.heap s.toks (s.toks + 1) keep0
    rw [PyData.shown_str] at z
    exact z
  | ref a =>
    obtain ⟨as, rd⟩ := Dp.reads I d _ u hd ru
    cases ru
    refine repr_of_reads' rd ok.nums (PyData.noDict_hsm (PyData.hasDict_of_canLay d (SeqAt.canLay_of_shaped ok.sh))) hg ?_ keep0 (fun h' t tk k => fin h' t tk k) ok.text
    have := SeqAt.depth_of_shaped ok.sh
    omega
  | byt _ => cases hd
  | flt _ => cases hd
  | ty _ => cases hd
section
variable {C : Ct} {ρ : List Kd} {k : Kd} {d : PyData} {te : TE}
theorem e_repr (h : E1 C te ρ k) (e : datK k = some d) (ok : ShOk d) : E1 C (tCB (rReprD C.K) (tCons te tNil)) ρ (.dat (.str d.shown)) := fun σ H r Q q => h σ H r _ fun k' v H1 s1 r1 o1 => by
  subst s1
  exact ⟨v, d, rfl, o1.dp e, ok, q _ _ _ rfl r1 (.str _)⟩
/-- _law_same -/
def t_same (K : PySem.W.Frag) : TS := tRet (tAndV (tOp (rEqP K) (tVar 0) (tVar 1)) (tOp (rEqP K) (tCB (rReprD K) (tCons (tVar 0) tNil)) (tCB (rReprD K) (tCons (tVar 1) tNil))))
def A_same : At := fun ks S Z => ∃ d e, ks = [.dat d, .dat e] ∧ ShOk d ∧ ShOk e ∧ (S = fun z => z = .dat (.bool (PyData.eqv d e && decide (d.shown = e.shown)))) ∧ Z = noZ
theorem b_same {P : Po} {e : PyData} (h1 : ShOk d) (h2 : ShOk e) (s : P.rt (.dat (.bool (PyData.eqv d e && decide (d.shown = e.shown))))) : BS C (t_same C.K) [.dat d, .dat e] P :=
  b_ret (e_and (e_op1 (e_var rfl) (e_var rfl) (k_eq rfl rfl h1.sh h2.sh)) fun _ => e_op1 (e_repr (e_var rfl) rfl h1) (e_repr (e_var rfl) rfl h2) k_eq_s) rfl s
end
end Mh
namespace Mh
open PySem PySem.Spec PyProof.Rows L2 TL
/-! ### list(reversed(xs)) -/
section
variable {prog : Program} {w : World} {A : Around} {E : Value → Shared → Prop} {s : Shared}
theorem fill_rev {R : Result → Shared → Prop} {it l : Addr} {items : Array Value} (calm : A.handled = none) (isIt : s.heap.IsRevIter it l ((items.size : Int) - 1)) (isL : s.heap.IsList l items) (apart : l ≠ it) (fits : items.size ≤ sizeLine)
    (T : Addr) (nit : T ≠ it) (nl : T ≠ l) (c₀ : Nat) (empty : s.heap.get? T = some { cls := .type "list", data := .seq #[] c₀ })
    (done : ∀ (h' : Heap) (tk : Nat) (acc : Array Value) (c' : Nat), (∀ b o, b ≠ it → b ≠ T → s.heap.get? b = some o → h'.get? b = some o) → h'.get? T = some { cls := .type "list", dict := none, data := .seq acc c', slots := #[] } →
      ItemsOf (fun i v => items[items.size - 1 - i]? = some v) acc items.size → R (.ok (.ret .none)) { s with heap := h', toks := tk }) :
    wpAny (model prog w) A.in1 (Builtin.List.listExtendWith (.ref T) (.ref it) .none)
      (fun fin s' => match fin with | .done f => R (.ok f) s' | .again c' => c'.quiet = true ∧ codeAny (model prog w) A c' R s') (fun e s' => R (.error e) s') s := by
  have walk := (Walks.listRev (prog := prog) (w := w) (A := A.in1) calm it l apart items).toS
  have off : T ∉ [it, l] := by simp [nit, nl]
  have kind : s.TypeIs (.ref it) "list_reverseiterator" := isIt.typeIs
  have other : Builtin.List.listSameRef (.ref T) (.ref it) = false := by simp [Builtin.List.listSameRef, nit]
  unfold Builtin.List.listExtendWith
  refine wpAny_bind (wpAny_typeOf kind ?_)
  rw [if_neg (by rw [other]; decide)]
  refine wpAny_bind (wpAny_pyIter_revIter isIt (wpAny_bind (wpAny_holding ?_)))
  unfold Builtin.List.listLengthHint
  refine wpAny_bind (wpAny_specialOf kind RT.nolen_lri ?_)
  show wpAny _ A.in1 (specialOf (Value.ref it) (Str.ofString "__length_hint__") >>= _) _ _ s
  refine wpAny_bind (wpAny_specialOf kind RT.hint_lri ?_)
  generalize named : ("list_reverseiterator.__length_hint__" : String) = nm
  wp_delta
  rw [show splitId nm = some ("list_reverseiterator", "__length_hint__") from by subst named; decide +kernel]
  subst named
  refine wpAny_bind (wpAny_isInstance (b := true) kind (by rw [isSubtype_type]; kernel_rfl) (wpAny_pure ?_))
  rw [if_neg (by decide)]
  have start : ((items.size : Nat) : Int) - 1 - ((0 : Nat) : Int) = (items.size : Int) - 1 := by omega
  refine wpAny_pure ⟨plainId_quiet F.plain_extend_loop _, codeAny_extend_loopS walk fits _ off _ items.size 0 _ _ _ rfl (Nat.zero_le _) ⟨Nat.zero_le _, by rw [start]; exact isIt, isL⟩ empty (ItemsOf.nil _) fun s' acc c' moved there all => ?_⟩
  rw [Moved.eq_with moved]
  refine done s'.heap s'.toks acc c' (fun b o n1 n2 e => moved.heap b o (fun h => ?_) e) there all
  rcases List.mem_cons.mp h with z | z
  · exact n2 z
  · exact n1 (List.mem_singleton.mp z)
theorem call_list_rev {it l : Addr} {items : Array Value} {Q : Value → Shared → Prop} (calm : A.handled = none) (isIt : s.heap.IsRevIter it l ((items.size : Int) - 1)) (isL : s.heap.IsList l items) (apart : l ≠ it) (fits : items.size ≤ sizeLine)
    (done : ∀ (h' : Heap) (tk : Nat) (acc : Array Value) (c' : Nat), (∀ b o, b ≠ it → s.heap.get? b = some o → h'.get? b = some o) → h'.get? s.heap.objs.size = some { cls := .type "list", dict := none, data := .seq acc c', slots := #[] } →
      ItemsOf (fun i v => items[items.size - 1 - i]? = some v) acc items.size → Q (.ref s.heap.objs.size) { s with heap := h', toks := tk }) :
    wpAny (model prog w) A (call (.type "list") [.ref it]) Q E s := by
  obtain ⟨oi, hoi, _⟩ := id isIt
  obtain ⟨ol, hol, _⟩ := id isL
  have n1 : s.heap.objs.size ≠ it := Nat.ne_of_gt (Heap.lt_size hoi)
  have n2 : s.heap.objs.size ≠ l := Nat.ne_of_gt (Heap.lt_size hol)
  refine callType_codes (Q₁ := fun obj s₁ => obj = .ref s.heap.objs.size ∧ s₁ = { s with heap := s.heap.push { cls := .type "list", data := .seq #[] } }) F.called_list (F.typeCall_list_1 _) F.entry_list_init (code_list_new _ ⟨rfl, rfl⟩) ?_
  rintro _ _ ⟨rfl, rfl⟩
  have made : (s.heap.push { cls := .type "list", data := .seq #[] }).get? s.heap.objs.size = some { cls := .type "list", data := .seq #[] } := Heap.get?_push_size _ rfl
  refine ⟨⟨_, made, rfl⟩, F.args_list_init_2 _ _, ?_⟩
  show wpAny _ _ (do let old ← Builtin.List.listItems (.ref s.heap.objs.size); Builtin.List.listUpdate (.ref s.heap.objs.size) (fun _ => #[]); letGo old.toList.reverse; Builtin.List.listExtendWith (.ref s.heap.objs.size) (.ref it) .none) _ _ _
  refine wpAny_bind ?_
  unfold Builtin.List.listItems
  refine wpAny_bind (wpAny_seqItems made rfl (wpAny_pure ?_))
  show wpAny _ _ (updateSeq s.heap.objs.size (fun _ => #[]) >>= fun _ => letGo (#[] : Array Value).toList.reverse >>= fun _ => Builtin.List.listExtendWith (.ref s.heap.objs.size) (.ref it) .none) _ _ _
  refine wpAny_bind (wpAny_updateSeq made rfl ?_)
  have made2 := Heap.get?_update_self (Obj.mapSeq (fun _ => (#[] : Array Value))) made rfl
  have rest : ∀ b o, b ≠ s.heap.objs.size → s.heap.get? b = some o → ((s.heap.push { cls := .type "list", data := .seq #[] }).update s.heap.objs.size (Obj.mapSeq (fun _ => (#[] : Array Value)))).get? b = some o :=
    fun b o hb e => (Heap.get?_update_other _ _ (Ne.symm hb)).trans (Heap.get?_push_of_some _ e)
  refine wpAny_bind (wpAny_letGo ?_)
  refine fill_rev (A := A.in1) (s := { s with heap := _ }) calm (isIt.at fun o e => rest it o (Ne.symm n1) e) ?_ apart fits _ n1 n2 _ made2 fun h' tk acc c' kept there all => ⟨rfl, done h' tk acc c' (fun b o hb e => kept b o hb (Nat.ne_of_lt (Heap.lt_size e)) (rest b o (Nat.ne_of_lt (Heap.lt_size e)) e)) there all⟩
  exact isL.at fun o e => rest l o (Ne.symm n2) e
end
def tLstRev (K : PySem.W.Frag) (te : TE) : TE := fun σ H Q => te σ H fun v H1 => ∃ (a : Addr) (xs : List V), v = .ref a ∧ SqL K H1 a xs ∧ ∀ q, H1 q = none → Q (.ref q) (upd H1 q (.lst xs.reverse))
section
variable {X : Cx}
theorem pe_lstRev {e : Expr} {te : TE} {p p2 pos pos2 : Pos} (calm : X.calm = true) (g1 : Gl X "list") (m1 : X.mg "list" = none) (g2 : Gl X "reversed") (m2 : X.mg "reversed" = none) (he : PE X e te)
    (h1 : starEach [e] X.env = (false, eval e X.env) :: starEach [] X.env := by rfl)
    (h2 : starEach [.Call (.Name "reversed" p2) [e] [] pos2] X.env = (false, eval (.Call (.Name "reversed" p2) [e] [] pos2) X.env) :: starEach [] X.env := by rfl) :
    PE X (.Call (.Name "list" p) [.Call (.Name "reversed" p2) [e] [] pos2] [] pos) (tLstRev X.K te) := ⟨fun pins s σ H Q I want => by
  refine Call_ (ld_blt I g1 m1 PyProof.Rows.boot_list (callWith_type1 (args_cons (Call_ (ld_blt I g2 m2 PyProof.Rows.boot_reversed (callWith_type1 (args_cons (thn (he.run pins s σ H _ I want) ?_) h1) h1 rfl))) h2) h2 rfl))
  rintro u s1 ⟨v, H1, I1, rel, a, xs, rfl, seq, fin⟩
  cases rel
  refine args_nil ?_
  obtain ⟨its, rv, plain, short⟩ := I1.list seq
  refine call_reversed_list plain.isList (args_nil ?_)
  have k0 : ∀ b o, s1.heap.get? b = some o → (s1.heap.push (revObj a ((its.toArray.size : Int) - 1))).get? b = some o := fun b o e => Heap.get?_push_of_some _ e
  have isL := plain.isList
  obtain ⟨ol, hol, _⟩ := id isL
  have apart : a ≠ s1.heap.objs.size := Nat.ne_of_lt (Heap.lt_size hol)
  have fits : its.toArray.size ≤ sizeLine := by rw [List.size_toArray, ← rv.length]; exact short
  refine call_list_rev (s := { s1 with heap := s1.heap.push (revObj a ((its.toArray.size : Int) - 1)) }) (I1.ok.hd calm) ⟨_, Heap.get?_push_size _ rfl, rfl, rfl⟩ (isL.push _) apart fits fun h' tk acc c' kept there all => ?_
  have size2 : (s1.heap.push (revObj a ((its.toArray.size : Int) - 1))).objs.size = s1.heap.objs.size + 1 := Heap.size_push _ _
  have free : H1 (s1.heap.push (revObj a ((its.toArray.size : Int) - 1))).objs.size = none := I1.hok.fresh (by rw [size2]; exact Nat.le_succ _)
  refine ⟨.ref _, upd H1 _ (.lst xs.reverse), I1.laid (t' := tk) (fun b o e => kept b o (Nat.ne_of_lt (Heap.lt_size e)) (k0 b o e)) (by rw [size2]; exact Nat.le_succ _) (show ObjOk X.prog X.w _ _ _ (.lst xs.reverse) from ⟨by rw [List.length_reverse]; exact short, acc.toList, c', RT.vals_rev rv all, ?_⟩), rfl, fin _ free⟩
  rw [Array.toArray_toList]
  exact there⟩
end
section
variable {C : Ct} {ρ : List Kd} {k : Kd} {ds : List PyData} {te : TE}
theorem e_lstRev (h : E1 C te ρ k) (e : datK k = some (.list ds)) : E1 C (tLstRev C.K te) ρ (.new ds.reverse) := fun σ H r Q q => h σ H r _ fun k' v H1 s1 r1 o1 => by
  subst s1
  obtain ⟨a, xs, rfl, h1, h2⟩ := o1.lsq e
  refine ⟨a, xs, rfl, h1, fun p hp => ?_⟩
  obtain ⟨q1, q2⟩ := (r.up r1).newL hp h2.reverse
  exact q _ _ _ rfl (r1.trans q1) (q2.back r.ok r1)
end
end Mh
namespace Mh
open PySem PySem.Spec PyProof.Rows L2 TL
abbrev rNegI : V → Hp → VK → Prop := rU fun i => .int (-i)
theorem hu65 {k : Nat} {A : Around} (r : Room k A) : A.units + 65 < cLine := by have := r.un; omega
theorem hu70 {k : Nat} {A : Around} (r : Room k A) : A.units + 70 < cLine := by have := r.un; omega
section
variable {X : Cx} {x : Str} {pos : Pos}
theorem pe_cstS {z : Str} (g : Gl X x) (h : ∃ t, X.mg x = some (.str z t)) (d : (x == ("__debug__" : Str)) = false := by decide) : PE X (.Name x pos) (tC (.str z)) := h.elim fun t m => pe_glob g m ⟨t, rfl⟩ d
theorem pe_cstI {z : Int} (g : Gl X x) (h : ∃ t, X.mg x = some (.int z t)) (d : (x == ("__debug__" : Str)) = false := by decide) : PE X (.Name x pos) (tC (.int z)) := h.elim fun t m => pe_glob g m ⟨t, rfl⟩ d
end
theorem sp_len {K : PySem.W.Frag} {F : Addr → Prop} {J : Hp → Prop} {fr : Bool} {A : At} {vs : List V} {H : Hp} {Q : VK} {E : XK} {n : Nat} (hA : ∀ ks S Z, A ks S Z → ks.length = n) (h : SpF K F J fr A vs H Q E) : vs.length = n := by
  obtain ⟨ks, S, Z, a, r, _⟩ := h
  have := r.len
  rw [List.length_map, hA _ _ _ a] at this
  exact this
section
variable {C : Ct} {ρ : List Kd} {te : TE} {i : Int}
theorem e_neg (h : E1 C te ρ (.dat (.int i))) : E1 C (tUn rNegI te) ρ (.dat (.int (-i))) := fun σ H r Q q => h σ H r _ fun k v H1 s1 r1 o1 => by
  subst s1
  exact ⟨i, dp_int o1, q _ _ _ rfl r1 (.int _)⟩
theorem e_negS {S1 S : Kd → Prop} (h : EB C te ρ S1) (s : ∀ k, S1 k → ∃ i, k = .dat (.int i) ∧ S (.dat (.int (-i)))) : EB C (tUn rNegI te) ρ S := fun σ H r Q q => h σ H r _ fun k v H1 s1 r1 o1 => by
  obtain ⟨i, rfl, s2⟩ := s k s1
  exact ⟨i, dp_int o1, q _ _ _ s2 r1 (.int _)⟩
end
end Mh
namespace Mh
open PySem L2 TL
section
variable {C : Ct} {σ : L2.St} {H H' H1 H2 Hs : Hp} {ρ : List Kd} {v : V} {k x y z : Kd} {l : Addr} {d e : PyData} {ds es : List PyData} {ta tb te : TE} {tt : TT} {t u : TS} {i j : Nat} {S S1 S2 : Kd → Prop} {P P' : Po}
theorem e_frzS (h : EB C te ρ S1) (s : ∀ k, S1 k → ∃ ds, k = .new ds ∧ S (.dat (.list ds))) : EB C te ρ S := fun σ H r Q q => h σ H r Q fun k v H' a b c => by
  obtain ⟨ds, rfl, s2⟩ := s k a
  exact q _ v H' s2 b (c.frz r b)
/-- a list of the def's own, from here on data -/
theorem own_dat (he : ρ[i]? = some (.own l ds)) {a : Addr} : Own (ρ.set i (.dat (.list ds))) a → Own ρ a ∧ a ≠ l ∨ (Own ρ a ∧ ∃ j es, j ≠ i ∧ ρ[j]? = some (.own a es)) := fun h => by
  obtain ⟨j, es, e⟩ := h
  by_cases hj : i = j
  · subst hj
    have hl : i < ρ.length := (List.getElem?_eq_some_iff.mp he).1
    rw [List.getElem?_set_self hl] at e
    cases e
  · rw [List.getElem?_set_ne hj] at e
    exact .inr ⟨⟨j, es, e⟩, j, es, fun z => hj z.symm, e⟩
theorem Rep.frz (r : Rep C σ H ρ) (he : ρ[i]? = some (.own l ds)) : Rep C σ H (ρ.set i (.dat (.list ds))) := by
  have sub : ∀ a, Own (ρ.set i (.dat (.list ds))) a → Own ρ a := fun a h => own_plain rfl h
  have ex : Ext (msk C ρ H) (msk C (ρ.set i (.dat (.list ds))) H) := msk_plain rfl
  have nl : ¬ Own (ρ.set i (.dat (.list ds))) l := fun h => by
    obtain ⟨j, es, e⟩ := h
    by_cases hj : i = j
    · subst hj
      have hl : i < ρ.length := (List.getElem?_eq_some_iff.mp he).1
      rw [List.getElem?_set_self hl] at e
      cases e
    · rw [List.getElem?_set_ne hj] at e
      exact hj (r.nd _ _ _ _ _ he e)
  obtain ⟨vs, h1, h2⟩ := r.own_at he
  have own : Own ρ l := ⟨i, ds, he⟩
  have hm : msk C (ρ.set i (.dat (.list ds))) H l = some (.lst vs) := msk_mk h1 nl (r.nF own) fun z => z.2.1 (r.fr l own)
  refine ⟨r.ok, r.j, r.old, by rw [List.length_set, r.len], fun a b l' ds' es' ha hb => ?_, fun l' o => r.fr l' (sub l' o), fun j k' e => ?_, fun p hp => Dp.ex ex (r.pn p hp)⟩
  · have q : ∀ {a : Nat} {ds'}, (ρ.set i (Kd.dat (.list ds)))[a]? = some (Kd.own l' ds') → ρ[a]? = some (Kd.own l' ds') := fun {a ds'} ha => by
      by_cases hj : i = a
      · subst hj
        have hl : i < ρ.length := (List.getElem?_eq_some_iff.mp he).1
        rw [List.getElem?_set_self hl] at ha
        cases ha
      · rw [List.getElem?_set_ne hj] at ha
        exact ha
    exact r.nd a b l' _ _ (q ha) (q hb)
  · by_cases hj : i = j
    · subst hj
      have hl : i < ρ.length := (List.getElem?_eq_some_iff.mp he).1
      rw [List.getElem?_set_self hl] at e
      cases e
      obtain ⟨h3, _⟩ := r.sl i _ he
      exact ⟨_, h3, .lst (.inl (.inl hm)) (DpAll.ex ex h2)⟩
    · rw [List.getElem?_set_ne hj] at e
      exact (r.sl j k' e).ex ex fun _ _ _ => rfl
theorem b_frz (he : ρ[i]? = some (.own l ds)) (h : BS C t (ρ.set i (.dat (.list ds))) P) : BS C t ρ P := fun σ H r D pd => h σ H (r.frz he) D pd
/-- for x in reversed(a tuple) -/
theorem b_forRev {tl : TE} (hl : E1 C tl ρ (.dat (.tuple ds))) (I : Nat → List Kd → Prop) (h0 : I 0 ρ)
    (hb : ∀ v d' (n : Nat) (a : PyData) ρ, n < ds.length → ds[ds.length - 1 - n]? = some a → I n ρ → BS (C.pin v d') t (ρ.set j (.dat a)) { nx := I (n + 1), ct := I (n + 1), bk := P.nx, rt := P.rt }) (he : ∀ ρ, I ds.length ρ → P.nx ρ) :
    BS C (tFor (RT.iRevA C.K tl) (gName j) t) ρ P := fun σ H r D pd => by
  refine hl σ H r _ fun k' v H1 s1 r1 o1 => ?_
  subst s1
  have hd : Dp C.K (msk C ρ H1) v (.tuple ds) := o1
  obtain ⟨a, xs, rfl, h1, h2⟩ := dp_tup hd
  have hlen := h2.length
  refine ⟨a, xs, rfl, .inr ⟨Ext.t msk_le h1, ?_⟩⟩
  rw [hlen]
  refine ⟨fun n m σ H => m = ds.length - n ∧ n ≤ ds.length ∧ ∃ ρ, I n ρ ∧ Rep (C.pin (.ref a) (.tuple ds)) σ H ρ, ⟨_, rfl, Nat.zero_le _, ρ, h0, (r.up r1).pin hd⟩, ?_⟩
  rintro n m σ H ⟨rfl, hn, ρ', hI, rp⟩
  by_cases hlt : n < ds.length
  · have hv : Dp C.K (msk C ρ' H) (.ref a) (.tuple ds) := rp.pn (.ref a, .tuple ds) List.mem_cons_self
    obtain ⟨a', ys, ea, g1, g2⟩ := dp_tup hv
    cases ea
    have gl := g2.length
    have hk : ds.length - 1 - n < ds.length := by omega
    refine .inr ⟨⟨hlt, ys, ys[ds.length - 1 - n]'(by omega), Ext.t msk_le g1, List.getElem?_eq_getElem _⟩, fun σ' H' => ∃ ρ, I (n + 1) ρ ∧ Rep (C.pin (.ref a) (.tuple ds)) σ' H' ρ, fun σ' H' z => ⟨_, by omega, rfl, hlt, z⟩, fun x H' y => ?_⟩
    obtain ⟨eH, y2⟩ := y
    subst eH
    obtain ⟨u, hu1, hu2⟩ := g2.getd (i := ds.length - 1 - n) (d := ds[ds.length - 1 - n]) (List.getElem?_eq_getElem _)
    have e3 := y2 ys (Ext.t msk_le g1)
    rw [hu1] at e3
    have e4 := Option.some.inj e3
    subst e4
    have rs := rp.set_plain (i := j) (Hs := H') (k := .dat ds[ds.length - 1 - n]) rfl hu2
    exact hb (.ref a) (.tuple ds) n _ ρ' hlt (List.getElem?_eq_getElem _) hI _ H' rs _ ⟨fun ρ σ H z r => ⟨ρ, z, r⟩, fun k v H z r => pd.rt k v H z r, fun ρ σ H z r' => pd.nx ρ σ H z (r'.unpin r.ok), fun ρ σ H z r => ⟨ρ, z, r⟩⟩
  · have en : n = ds.length := by omega
    subst en
    exact .inl ⟨Nat.le_refl _, pd.nx ρ' σ H (he ρ' hI) (rp.unpin r.ok)⟩
end
end Mh
namespace Mh
open PySem L2 TL
/-! ### value texts, in plain Lean -/
def fig (c : Nat) : Bool := decide (48 ≤ c) && decide (c ≤ 57)
def ltr (c : Nat) : Bool := decide (97 ≤ c) && decide (c ≤ 122)
mutual
def txt : PyData → List Nat
  | .str x => 34 :: (tl x ++ [34])
  | .int i => numL i.toNat
  | .tuple xs => 40 :: (txtAll xs ++ [41])
  | _ => [45]
def txtAll : List PyData → List Nat
  | [] => []
  | x :: xs => txt x ++ (44 :: txtAll xs)
end
mutual
def gd : PyData → Bool
  | .none => true
  | .str x => (tl x).all ltr
  | .int i => decide (0 ≤ i) && decide (i < 10 ^ 40)
  | .tuple xs => gdAll xs
  | _ => false
def gdAll : List PyData → Bool
  | [] => true
  | x :: xs => gd x && gdAll xs
end
mutual
def dep : PyData → Nat
  | .tuple xs => depAll xs + 1
  | _ => 0
def depAll : List PyData → Nat
  | [] => 0
  | x :: xs => max (dep x) (depAll xs)
end
mutual
theorem gd_nl : ∀ d, gd d = true → nl d = true
  | .none, _ => rfl
  | .str _, _ => rfl
  | .int _, _ => rfl
  | .tuple xs, h => gdAll_nl xs (by simpa [gd] using h)
  | .bool _, h => by simp [gd] at h
  | .list _, h => by simp [gd] at h
  | .dict _, h => by simp [gd] at h
theorem gdAll_nl : ∀ ds, gdAll ds = true → nl.nlAll ds = true
  | [], _ => rfl
  | x :: xs, h => by
    have h2 : gd x = true ∧ gdAll xs = true := by simpa [gdAll] using h
    show (nl x && nl.nlAll xs) = true
    rw [gd_nl x h2.1, gdAll_nl xs h2.2]
    rfl
end
theorem str_ok {x : Str} (h : ∀ c ∈ tl x, c < 128) : PyData.strOk x = true := by
  unfold PyData.strOk
  rw [Array.all_eq_true_iff_forall_mem]
  intro c hc
  have := h c (by simpa [tl] using hc)
  simp
  omega
theorem ltr_lt {c : Nat} (h : ltr c = true) : c < 128 := by
  simp [ltr] at h
  omega
mutual
theorem gd_lay : ∀ d, gd d = true → d.canLay0 = true
  | .none, _ => rfl
  | .str x, h => by
    show PyData.strOk x = true
    refine str_ok fun c hc => ?_
    have h2 : (tl x).all ltr = true := by simpa [gd] using h
    exact ltr_lt (List.all_eq_true.mp h2 c hc)
  | .int _, _ => rfl
  | .tuple xs, h => gdAll_lay xs (by simpa [gd] using h)
  | .bool _, h => by simp [gd] at h
  | .list _, h => by simp [gd] at h
  | .dict _, h => by simp [gd] at h
theorem gdAll_lay : ∀ ds, gdAll ds = true → PyData.canLayAll0 ds = true
  | [], _ => rfl
  | x :: xs, h => by
    have h2 : gd x = true ∧ gdAll xs = true := by simpa [gdAll] using h
    show (PyData.canLay0 x && PyData.canLayAll0 xs) = true
    rw [gd_lay x h2.1, gdAll_lay xs h2.2]
    rfl
end
mutual
theorem gd_dep : ∀ d, gd d = true → d.depth = dep d
  | .none, _ => by rw [dep, PyData.depth]; nofun
  | .str x, h => by rw [dep, PyData.depth]; nofun
  | .int _, _ => by rw [dep, PyData.depth]; nofun
  | .tuple xs, h => by rw [dep, PyData.depth, gdAll_dep xs (by simpa [gd] using h)]
  | .bool _, h => by simp [gd] at h
  | .list _, h => by simp [gd] at h
  | .dict _, h => by simp [gd] at h
theorem gdAll_dep : ∀ ds, gdAll ds = true → PyData.depthAll ds = depAll ds
  | [], _ => by rw [depAll, PyData.depthAll]
  | x :: xs, h => by
    have h2 : gd x = true ∧ gdAll xs = true := by simpa [gdAll] using h
    rw [depAll, PyData.depthAll, gd_dep x h2.1, gdAll_dep xs h2.2]
end
theorem log_lt {i : Int} (h0 : 0 ≤ i) (h : i < 10 ^ 40) : i.natAbs.log2 < 1920 := by
  by_cases z : i.natAbs = 0
  · rw [z]
    decide
  · rw [Nat.log2_lt z]
    have e : i.natAbs < 10 ^ 40 := by omega
    exact Nat.lt_trans e (by decide)
mutual
theorem gd_show : ∀ d, gd d = true → d.showable = true
  | .none, _ => rfl
  | .str x, h => rfl
  | .int i, h => by
    have h2 : 0 ≤ i ∧ i < 10 ^ 40 := by simpa [gd] using h
    show decide (i.natAbs.log2 < 1920) = true
    exact decide_eq_true (log_lt h2.1 h2.2)
  | .tuple xs, h => gdAll_show xs (by simpa [gd] using h)
  | .bool _, h => by simp [gd] at h
  | .list _, h => by simp [gd] at h
  | .dict _, h => by simp [gd] at h
theorem gdAll_show : ∀ ds, gdAll ds = true → PyData.showableAll ds = true
  | [], _ => rfl
  | x :: xs, h => by
    have h2 : gd x = true ∧ gdAll xs = true := by simpa [gdAll] using h
    show (PyData.showable x && PyData.showableAll xs) = true
    rw [gd_show x h2.1, gdAll_show xs h2.2]
    rfl
end
theorem num_str {i : Int} (h0 : 0 ≤ i) : tl ((toString i : String) : Str) = numL i.toNat := by
  have e : i = ((i.toNat : Nat) : Int) := by omega
  rw [e]
  exact tl_num _
mutual
theorem gd_len : ∀ d, gd d = true → rlen d ≤ 10 * (txt d).length
  | .none, _ => by simp [rlen, txt]
  | .str x, h => by
    simp [rlen, txt, Str.length]
    omega
  | .int i, h => by
    have h2 : 0 ≤ i ∧ i < 10 ^ 40 := by simpa [gd] using h
    rw [rlen, txt, len_tl, num_str h2.1]
    omega
  | .tuple xs, h => by
    have q := gdAll_len xs (by simpa [gd] using h)
    rw [rlen, txt]
    simp
    omega
  | .bool _, h => by simp [gd] at h
  | .list _, h => by simp [gd] at h
  | .dict _, h => by simp [gd] at h
theorem gdAll_len : ∀ ds, gdAll ds = true → rlenAll ds ≤ 10 * (txtAll ds).length
  | [], _ => by simp [rlenAll]
  | x :: xs, h => by
    have h2 : gd x = true ∧ gdAll xs = true := by simpa [gdAll] using h
    have q1 := gd_len x h2.1
    have q2 := gdAll_len xs h2.2
    rw [rlenAll, txtAll]
    simp
    omega
end
theorem gd_sh {d : PyData} (h : gd d = true) (hd : dep d ≤ 64) (hl : (txt d).length ≤ 100000) : ShOk d := by
  refine ⟨?_, gd_show d h, ?_⟩
  · unfold SeqAt.shaped
    rw [gd_lay d h, gd_dep d h, decide_eq_true hd]
    rfl
  · have := gd_len d h
    omega
theorem str_sh {x : Str} (h : ∀ c ∈ tl x, c < 128) (hl : x.length ≤ 99999) : ShOk (.str x) := by
  refine ⟨?_, rfl, ?_⟩
  · unfold SeqAt.shaped
    rw [show PyData.canLay0 (.str x) = true from str_ok h]
    rfl
  · rw [rlen]
    omega
mutual
theorem txt_lt : ∀ d, gd d = true → ∀ c ∈ txt d, c < 128
  | .none, _, c, hc => by
    simp [txt] at hc
    omega
  | .str x, h, c, hc => by
    have h2 : (tl x).all ltr = true := by simpa [gd] using h
    rw [txt] at hc
    rcases List.mem_cons.mp hc with e | hc
    · omega
    · rcases List.mem_append.mp hc with e | e
      · exact ltr_lt (List.all_eq_true.mp h2 c e)
      · have := List.mem_singleton.mp e
        omega
  | .int i, h, c, hc => by
    rw [txt] at hc
    have := numL_digits i.toNat c hc
    omega
  | .tuple xs, h, c, hc => by
    rw [txt] at hc
    rcases List.mem_cons.mp hc with e | hc
    · omega
    · rcases List.mem_append.mp hc with e | e
      · exact txtAll_lt xs (by simpa [gd] using h) c e
      · have := List.mem_singleton.mp e
        omega
  | .bool _, h, _, _ => by simp [gd] at h
  | .list _, h, _, _ => by simp [gd] at h
  | .dict _, h, _, _ => by simp [gd] at h
theorem txtAll_lt : ∀ ds, gdAll ds = true → ∀ c ∈ txtAll ds, c < 128
  | [], _, c, hc => by simp [txtAll] at hc
  | x :: xs, h, c, hc => by
    have h2 : gd x = true ∧ gdAll xs = true := by simpa [gdAll] using h
    rw [txtAll] at hc
    rcases List.mem_append.mp hc with e | e
    · exact txt_lt x h2.1 c e
    · rcases List.mem_cons.mp e with e | e
      · omega
      · exact txtAll_lt xs h2.2 c e
end
theorem txtAll_app (xs ys : List PyData) : txtAll (xs ++ ys) = txtAll xs ++ txtAll ys := by
  induction xs with
  | nil => rfl
  | cons x xs ih => simp [txtAll, ih]
theorem gdAll_app (xs ys : List PyData) : gdAll (xs ++ ys) = (gdAll xs && gdAll ys) := by
  induction xs with
  | nil => rfl
  | cons x xs ih => simp [gdAll, ih, Bool.and_assoc]
/-! ### reading a value text -/
inductive Atm : List Nat → PyData → List Nat → Prop where
  | non {r : List Nat} : Atm (45 :: r) .none r
  | str {w r : List Nat} : w.all ltr = true → Atm (34 :: (w ++ 34 :: r)) (.str ⟨w.toArray⟩) r
  | num {n : Nat} {r : List Nat} : n < 10 ^ 40 → (∀ c, r.head? = some c → fig c = false) → Atm (numL n ++ r) (.int n) r
inductive Par : List (List PyData) → List Nat → PyData → Prop where
  | op {st : List (List PyData)} {r : List Nat} {d : PyData} : st.length < 60 → Par ([] :: st) r d → Par st (40 :: r) d
  | cl1 {top : List PyData} : Par [top] [41] (.tuple top)
  | cl2 {top up : List PyData} {st : List (List PyData)} {r : List Nat} {d : PyData} : Par ((up ++ [.tuple top]) :: st) r d → Par (top :: up :: st) (41 :: 44 :: r) d
  | at1 {cs : List Nat} {v : PyData} : Atm cs v [] → Par [] cs v
  | at2 {cs r : List Nat} {v d : PyData} {top : List PyData} {st : List (List PyData)} : Atm cs v (44 :: r) → Par ((top ++ [v]) :: st) r d → Par (top :: st) cs d
def Fin_ (st : List (List PyData)) (v : PyData) (r : List Nat) (res : PyData) : Prop := match st with
  | [] => r = [] ∧ res = v
  | top :: st => ∃ r', r = 44 :: r' ∧ Par ((top ++ [v]) :: st) r' res
theorem fin_atm {st : List (List PyData)} {v res : PyData} {cs r : List Nat} (h : Fin_ st v r res) (a : (∀ c, r.head? = some c → fig c = false) → Atm cs v r) : Par st cs res := by
  cases st with
  | nil =>
    obtain ⟨rfl, rfl⟩ := h
    exact .at1 (a (by simp))
  | cons top st =>
    obtain ⟨r', rfl, p⟩ := h
    refine .at2 (a ?_) p
    intro c hc
    simp at hc
    subst hc
    rfl
mutual
theorem par_txt : ∀ d, gd d = true → ∀ st r res, dep d + st.length ≤ 60 → Fin_ st d r res → Par st (txt d ++ r) res
  | .none, _, st, r, res, _, f => fin_atm f fun _ => .non
  | .str x, h, st, r, res, _, f => by
    have h2 : (tl x).all ltr = true := by simpa [gd] using h
    refine fin_atm f fun _ => ?_
    have := Atm.str (r := r) h2
    rw [mk_tl] at this
    rw [txt]
    simpa using this
  | .int i, h, st, r, res, _, f => by
    have h2 : 0 ≤ i ∧ i < 10 ^ 40 := by simpa [gd] using h
    refine fin_atm f fun q => ?_
    have e : i = ((i.toNat : Nat) : Int) := by omega
    have := Atm.num (n := i.toNat) (r := r) (by omega) q
    rw [← e] at this
    exact this
  | .tuple xs, h, st, r, res, hd, f => by
    rw [dep] at hd
    rw [txt, List.cons_append]
    refine .op (by omega) ?_
    have := parAll xs (by simpa [gd] using h) [] st r res (by omega) (by simpa using f)
    simpa using this
  | .bool _, h, _, _, _, _, _ => by simp [gd] at h
  | .list _, h, _, _, _, _, _ => by simp [gd] at h
  | .dict _, h, _, _, _, _, _ => by simp [gd] at h
theorem parAll : ∀ xs, gdAll xs = true → ∀ acc st r res, depAll xs + st.length + 1 ≤ 60 → Fin_ st (.tuple (acc ++ xs)) r res → Par (acc :: st) (txtAll xs ++ 41 :: r) res
  | [], _, acc, st, r, res, _, f => by
    rw [List.append_nil] at f
    cases st with
    | nil =>
      obtain ⟨rfl, rfl⟩ := f
      exact .cl1
    | cons up st =>
      obtain ⟨r', rfl, p⟩ := f
      exact .cl2 p
  | x :: xs, h, acc, st, r, res, hd, f => by
    have h2 : gd x = true ∧ gdAll xs = true := by simpa [gdAll] using h
    rw [depAll] at hd
    rw [txtAll, List.append_assoc, List.cons_append]
    refine par_txt x h2.1 (acc :: st) _ res (by simp only [List.length_cons]; omega) ⟨_, rfl, ?_⟩
    refine parAll xs h2.2 (acc ++ [x]) st r res (by omega) ?_
    rw [List.append_assoc]
    exact f
end
theorem par_of {d : PyData} (h : gd d = true) (hd : dep d ≤ 60) : Par [] (txt d) d := by
  have := par_txt d h [] [] d (by simpa using hd) ⟨rfl, rfl⟩
  rwa [List.append_nil] at this
end Mh
namespace Mh
open PySem PySem.Spec PyProof.Rows L2 TL
/-! ### what the value-text defs promise -/
def sg : Option Nat → Str
  | none => ⟨#[]⟩
  | some c => ⟨#[c]⟩
def A_sg (p : Nat → Bool) : At := fun ks S Z => ∃ o, ks = [.dat (.str (sg o))] ∧ S = (fun z => z = .dat (.bool (o.any p))) ∧ Z = noZ
def sp_is_figure (K : PySem.W.Frag) : Sp := SpP K (A_sg fig)
def sp_is_letter (K : PySem.W.Frag) : Sp := SpP K (A_sg ltr)
def tw (p : Nat → Bool) (z : Str) (k : Nat) : List Nat := ((tl z).drop k).takeWhile p
def A_fend : At := fun ks S Z => ∃ (z : Str) (p : Nat), ks = [.dat (.str z), .dat (.int p)] ∧ p ≤ z.length ∧ z.length ≤ sizeLine ∧ S = (fun k => k = .dat (.int ((p + (tw fig z p).length : Nat) : Int))) ∧ Z = noZ
def sp_figures_end (K : PySem.W.Frag) : Sp := SpP K A_fend
def arf (w : List Nat) : Bool := w.all fig && (decide (w = [48]) || (match w with | [] => false | c :: _ => !decide (c = 48)))
def A_are : At := fun ks S Z => ∃ z : Str, ks = [.dat (.str z)] ∧ z.length ≤ sizeLine ∧ S = (fun k => k = .dat (.bool (arf (tl z)))) ∧ Z = noZ
def sp_are_figures (K : PySem.W.Frag) : Sp := SpP K A_are
def numV (z : Str) (m : Int) : PyData := if decide (m < (z.length : Int)) || !arf (tl z) then .none else .int ((NumText.digitsVal (tl z) : Nat) : Int)
def A_num : At := fun ks S Z => ∃ (z : Str) (m : Int), ks = [.dat (.str z), .dat (.int m)] ∧ z.length ≤ sizeLine ∧ m ≤ 640 ∧ S = (fun k => k = .dat (numV z m)) ∧ Z = noZ
def sp_number_of (K : PySem.W.Frag) : Sp := SpP K A_num
def isTup : PyData → Bool
  | .tuple _ => true
  | _ => false
def A_atxt : At := fun ks S Z => ∃ d, ks = [.dat d] ∧ gd d = true ∧ isTup d = false ∧ (txt d).length ≤ 100000 ∧ S = (fun k => k = .dat (.str ⟨(txt d).toArray⟩)) ∧ Z = noZ
def sp_atom_text (K : PySem.W.Frag) : Sp := SpP K A_atxt
def A_txt : At := fun ks S Z => ∃ d, ks = [.dat d] ∧ gd d = true ∧ (txt d).length ≤ 100000 ∧ S = (fun k => k = .dat (.str ⟨(txt d).toArray⟩)) ∧ Z = noZ
def sp_text_of (K : PySem.W.Frag) : Sp := SpP K A_txt
def sp_told (K : PySem.W.Frag) : Sp := SpP K A_txt
/-! ### plain laws of signs -/
theorem digs : tl ("0123456789" : Str) = [48, 49, 50, 51, 52, 53, 54, 55, 56, 57] := by decide +kernel
theorem ltrs : tl ("abcdefghijklmnopqrstuvwxyz" : Str) = [97, 98, 99, 100, 101, 102, 103, 104, 105, 106, 107, 108, 109, 110, 111, 112, 113, 114, 115, 116, 117, 118, 119, 120, 121, 122] := by decide +kernel
theorem mem_digs (c : Nat) : decide (c ∈ tl ("0123456789" : Str)) = fig c := by
  rw [digs, fig, ← Bool.decide_and]
  exact decide_eq_decide.mpr (by simp; omega)
theorem mem_ltrs (c : Nat) : decide (c ∈ tl ("abcdefghijklmnopqrstuvwxyz" : Str)) = ltr c := by
  rw [ltrs, ltr, ← Bool.decide_and]
  exact decide_eq_decide.mpr (by simp; omega)
theorem tw_at (p : Nat → Bool) : ∀ (l : List Nat) (k : Nat), k ≤ (l.takeWhile p).length → (l[k]?).any p = decide (k < (l.takeWhile p).length)
  | [], k, h => by
    simp at h
    simp [h]
  | a :: l, 0, h => by
    cases e : p a <;> simp [List.takeWhile_cons, e]
  | a :: l, k + 1, h => by
    cases e : p a with
    | false => simp [List.takeWhile_cons, e] at h
    | true =>
      simp [List.takeWhile_cons, e] at h ⊢
      rw [tw_at p l k h]
theorem sg_ne (o : Option Nat) : decide (sg o = ("" : Str)) = o.isNone := by
  cases o with
  | none => decide
  | some c =>
    refine decide_eq_false fun h => ?_
    have := congrArg (fun x : Str => (tl x).length) h
    exact absurd this (by simp [sg]; decide)
theorem cut_sg {z : Str} {p : Nat} : cutS z (some (p : Int)) (some ((p : Int) + 1)) = sg (tl z)[p]? := by
  refine ext_tl ?_
  have e : ((p : Int) + 1) = ((p + 1 : Nat) : Int) := by omega
  show ((z.cps.toList.drop (HT.sIx z.length 0 (some (p : Int)))).take (HT.sIx z.length z.length (some ((p : Int) + 1)) - HT.sIx z.length 0 (some (p : Int)))) = _
  rw [e, HT.sIx_nat, HT.sIx_nat]
  have hl : z.length = z.cps.toList.length := len_tl z
  by_cases hp : p < z.length
  · have e1 : min p z.length = p := by omega
    have e2 : min (p + 1) z.length - p = 1 := by omega
    rw [e1, e2, List.getElem?_eq_getElem (by rw [← hl]; exact hp), List.drop_eq_getElem_cons (by rw [← hl]; exact hp)]
    rfl
  · have e2 : min (p + 1) z.length - min p z.length = 0 := by omega
    rw [e2, List.getElem?_eq_none (by rw [← hl]; omega)]
    rfl
theorem cut_sub {z : Str} {p q : Nat} (h : p ≤ q) (hq : q ≤ z.length) : cutS z (some (p : Int)) (some (q : Int)) = ⟨(((tl z).drop p).take (q - p)).toArray⟩ := by
  refine ext_tl ?_
  show ((z.cps.toList.drop (HT.sIx z.length 0 (some (p : Int)))).take (HT.sIx z.length z.length (some (q : Int)) - HT.sIx z.length 0 (some (p : Int)))) = _
  rw [HT.sIx_nat, HT.sIx_nat, Nat.min_eq_left hq, Nat.min_eq_left (Nat.le_trans h hq)]
theorem tw_len {p : Nat → Bool} {z : Str} {k : Nat} (h : k ≤ z.length) : k + (tw p z k).length ≤ z.length := by
  have h1 : (tw p z k).length ≤ ((tl z).drop k).length := (List.takeWhile_prefix p).length_le
  rw [List.length_drop, ← len_tl] at h1
  omega
theorem tw_all {p : Nat → Bool} : ∀ l : List Nat, decide ((l.takeWhile p).length = l.length) = l.all p
  | [] => rfl
  | a :: l => by
    cases e : p a with
    | false => simp [List.takeWhile_cons, e]
    | true =>
      have := tw_all (p := p) l
      simp [List.takeWhile_cons, e] at this ⊢
      exact this
theorem take_tw {p : Nat → Bool} (l : List Nat) : l.take (l.takeWhile p).length = l.takeWhile p := List.prefix_iff_eq_take.mp (List.takeWhile_prefix p) |>.symm
section
variable {C : Ct} {ρ : List Kd} {i j : Nat} {z : Str} {p : Nat}
theorem e_sign (hz : ρ[i]? = some (.dat (.str z))) (hp : ρ[j]? = some (.dat (.int (p : Int)))) (h : z.length ≤ sizeLine) : E1 C (tSl (rSlP C.K) (tVar i) (tPart (tVar j)) (tPart (tOp (rAddP C.K) (tVar j) (tC (.int 1))))) ρ (.dat (.str (sg (tl z)[p]?))) :=
  (e_slS (e_var hz) (o_some (e_var hp)) (o_some (e_op1 (e_var hp) e_int k_add_i)) h).is (by rw [cut_sg])
end
end Mh
namespace Mh
open PySem PySem.Spec PyProof.Rows L2 TL
/-! ### the laws' box: three lists that change by draws -/
def BF (b g c : Addr) : Addr → Prop := fun a => a = b ∨ a = g ∨ a = c
def BJ (b g c : Addr) : Hp → Prop := fun H => b ≠ g ∧ b ≠ c ∧ g ≠ c ∧ ∃ (n : Int) (gs cs : List Int), H b = some (.lst [.ref g, .ref c, .int n]) ∧ H g = some (.lst (gs.map V.int)) ∧ H c = some (.lst (cs.map V.int)) ∧ cs ≠ []
def bxK (b : Addr) : Knd := ⟨fun _ _ v => v = .ref b, fun _ h => h⟩
abbrev bx (b : Addr) : Kd := .k (bxK b)
def spB (K : PySem.W.Frag) (A : Addr → At) : Sp := fun vs H Q E => ∃ b g c, SpF K (BF b g c) (BJ b g c) true (A b) vs H Q E
structure InB (C : Ct) (b : Addr) : Prop where
  ex : ∃ g c, C.F = BF b g c ∧ C.J = BJ b g c
theorem box_ok {K : PySem.W.Frag} {b g c : Addr} {H : Hp} {fr : Bool} {E : XK} (j : BJ b g c H) : (Ct.mk K (BF b g c) (BJ b g c) H fr [] E noZ).Ok where
  st := fun H H' j h => by
    obtain ⟨h1, h2, h3, n, gs, cs, q1, q2, q3, q4⟩ := j
    exact ⟨h1, h2, h3, n, gs, cs, (h b (.inl rfl)).trans q1, (h g (.inr (.inl rfl))).trans q2, (h c (.inr (.inr rfl))).trans q3, q4⟩
  ls := fun H a j f => by
    obtain ⟨h1, h2, h3, n, gs, cs, q1, q2, q3, q4⟩ := j
    rcases f with rfl | rfl | rfl
    · exact ⟨_, q1⟩
    · exact ⟨_, q2⟩
    · exact ⟨_, q3⟩
  j0 := j
  hE := fun _ _ _ _ _ z => z.elim
section
variable {C : Ct} {σ : L2.St} {H H' H1 H2 Hs : Hp} {ρ : List Kd} {v x y z u : V} {k : Kd} {l : Addr} {d e : PyData} {ds es : List PyData} {ta tb te : TE} {tt : TT} {t : TS} {i j : Nat} {S S1 S2 : Kd → Prop} {P P' : Po} {b : Addr} {K : PySem.W.Frag}
theorem InB.pin {v : V} (h : InB C b) : InB (C.pin v d) b := ⟨h.ex⟩
/-- a law's def, called -/
theorem e_callB {A : Addr → At} {ta : TA} {E : XK} {PA : List Kd → Prop} (hb : InB C b) (ha : EA C ta ρ PA) (hA : ∀ ks, PA ks → ∃ ks' S', ArgsK true ks ks' ∧ A b ks' S' noZ ∧ ∀ k, S' k → S k) : EB C (tCall (spB C.K A) [] E ta) ρ S := by
  obtain ⟨g, c, hF, hJ⟩ := hb.ex
  exact e_callM ha (.inl ⟨rfl, rfl⟩) (fun vs H Q h => ⟨b, g, c, by rw [← hF, ← hJ]; exact h⟩) hA
theorem a_bx : ArgK true (bx b) (bx b) := .k (.inr fun _ _ _ _ h => h)
/-! ### _law_draw, by hand -/
theorem br {b : Bool} {A B : Prop} (h1 : b = true → A) (h2 : b = false → B) : if b = true then A else B := by
  cases b with
  | true => exact (if_pos rfl).mpr (h1 rfl)
  | false => exact (if_neg Bool.false_ne_true).mpr (h2 rfl)
theorem ix_last (n : Nat) : ixN (n + 1) (-1) = some n := by
  unfold ixN
  rw [if_neg (by decide), if_pos (by omega)]
  exact congrArg some (by omega)
theorem at_last {α : Type} (xs : List α) (u : α) : atI (xs ++ [u]) (-1) = some u := by
  unfold atI
  rw [List.length_append, List.length_singleton, ix_last]
  simp
theorem at_nat {α : Type} {xs : List α} {n : Nat} {u : α} (h : xs[n]? = some u) : atI xs (n : Int) = some u := by
  have hl := (List.getElem?_eq_some_iff.mp h).1
  unfold atI ixN
  rw [if_pos (by omega), if_pos (by omega)]
  simpa using h
theorem at_int {α : Type} {xs : List α} {i : Int} (h0 : 0 ≤ i) (h : i < xs.length) : ∃ u, atI xs i = some u ∧ xs[i.toNat]? = some u := by
  have hl : i.toNat < xs.length := by omega
  refine ⟨xs[i.toNat], ?_, List.getElem?_eq_getElem hl⟩
  unfold atI ixN
  rw [if_pos h0, if_pos h]
  exact List.getElem?_eq_getElem hl
abbrev Vl (te : TE) (σ : L2.St) (H : Hp) (v : V) : Prop := ∀ Q : VK, Q v H → te σ H Q
theorem vl_var (h : σ[i]? = some (some v)) : Vl (tVar i) σ H v := fun Q q => ⟨v, h, q⟩
theorem vl_c : Vl (tC v) σ H v := fun Q q => q
theorem vl_op {r : R2} (ha : Vl ta σ H x) (hb : Vl tb σ H y) (h : ∀ Q : VK, Q z H → r x y H Q) : Vl (tOp r ta tb) σ H z := fun Q q => ha _ (hb _ (h Q q))
theorem o_ix {a : Addr} {xs : List V} {i : Int} (h : H a = some (.lst xs)) (e : atI xs i = some u) : ∀ Q : VK, Q u H → rIx K (.ref a) (.int i) H Q := fun Q q => .inl ⟨a, xs, i, u, rfl, rfl, .inl (.inl h), e, q⟩
theorem o_add {i j : Int} : ∀ Q : VK, Q (.int (i + j)) H → rAddP K (.int i) (.int j) H Q := fun Q q => .inl ⟨i, j, rfl, rfl, q⟩
theorem o_mul {i j : Int} (h : CMul i j) : ∀ Q : VK, Q (.int (i * j)) H → rMulP K (.int i) (.int j) H Q := fun Q q => .inl ⟨i, j, rfl, rfl, h, q⟩
theorem o_mod {i j : Int} (h : 0 < j) : ∀ Q : VK, Q (.int (i % j)) H → rModI (.int i) (.int j) H Q := fun Q q => ⟨i, j, rfl, rfl, h, q⟩
theorem o_div {i j : Int} (h : 0 < j ∧ j < 1073741824) : ∀ Q : VK, Q (.int (i / j)) H → rDivI (.int i) (.int j) H Q := fun Q q => ⟨i, j, rfl, rfl, h, q⟩
theorem o_gt {i j : Int} : ∀ Q : VK, Q (.bl (decide (j < i))) H → rGtI (.int i) (.int j) H Q := fun Q q => ⟨i, j, rfl, rfl, q⟩
theorem o_eq {i j : Int} : ∀ Q : VK, Q (.bl (decide (i = j))) H → rEqP K (.int i) (.int j) H Q := fun Q q => .inl ⟨rfl, by rw [dec_i]; exact q⟩
theorem vl_int {i : Int} (h : Vl ta σ H (.int i)) : Vl (tCB rIntP (tCons ta tNil)) σ H (.int i) := fun Q q => h _ (.inl (.inl ⟨i, rfl, q⟩))
theorem vl_len {a : Addr} {xs : List V} (h : Vl ta σ H (.ref a)) (e : H a = some (.lst xs)) : Vl (tCB (rLenP K) (tCons ta tNil)) σ H (.int xs.length) := fun Q q => h _ ⟨.ref a, xs.length, rfl, .inl ⟨xs, .inl (.inl e), rfl⟩, q⟩
theorem vl_neg {i : Int} (h : Vl ta σ H (.int i)) : Vl (tUn rNegI ta) σ H (.int (-i)) := fun Q q => h _ ⟨i, rfl, q⟩
end
def A_draw (b : Addr) : At := fun ks S Z => ∃ m : Int, 0 < m ∧ m < 1073741824 ∧ ks = [bx b, .dat (.int m)] ∧ S = (fun k => ∃ d : Int, 0 ≤ d ∧ d < m ∧ k = .dat (.int d)) ∧ Z = noZ
def sp_law_draw (K : PySem.W.Frag) : Sp := spB K A_draw
section
variable {C : Ct} {ρ : List Kd} {te : TE} {i : Nat} {b : Addr} {m : Int}
def drS (m : Int) : Kd → Prop := fun k => ∃ d : Int, 0 ≤ d ∧ d < m ∧ k = .dat (.int d)
theorem e_draw (hb : InB C b) (hi : ρ[i]? = some (bx b)) (h : E1 C te ρ (.dat (.int m))) (h0 : 0 < m) (h1 : m < 1073741824) : EB C (tCall (sp_law_draw C.K) [] E0 (tCons (tVar i) (tCons te tNil))) ρ (drS m) :=
  e_callB (PA := fun ks => ks = [bx b, .dat (.int m)]) hb (a_cons (e_var hi) (a_cons h a_nil)) fun ks e => by
    subst e
    exact ⟨_, _, .cons a_bx (.cons (.dat fun _ => rfl) .nil), ⟨m, h0, h1, rfl, rfl, rfl⟩, fun k h => h⟩
end
def t_draw (K : PySem.W.Frag) : TS := (tSeq (tAsg (tOp (rIx K) (tVar 0) (tC (.int 0))) (gName 2))
  (tSeq (tAsg (tOp (rAddP K) (tOp (rIx K) (tVar 0) (tC (.int 2))) (tC (.int 1))) (gSub (tVar 0) (tC (.int 2)) rSetL))
  (tSeq (tWhile (tAnd (tTest (tOp rGtI (tCB (rLenP K) (tCons (tVar 2) tNil)) (tC (.int 0)))) (tTest (tOp (rEqP K) (tOp (rIx K) (tVar 2) (tUn rNegI (tC (.int 1)))) (tC (.int 0))))) (tDrop (tBM0 K "list" rPop (tVar 2))))
  (tSeq (tIfS (tTest (tOp rGtI (tCB (rLenP K) (tCons (tVar 2) tNil)) (tC (.int 0)))) (tSeq (tAsg (tOp rModI (tCB (rIntP) (tCons (tOp (rIx K) (tVar 2) (tUn rNegI (tC (.int 1)))) tNil)) (tVar 1)) (gName 5))
  (tSeq (tAsg (tOp rDivI (tOp (rIx K) (tVar 2) (tUn rNegI (tC (.int 1)))) (tVar 1)) (gSub (tVar 2) (tUn rNegI (tC (.int 1))) rSetL))
  (tRet (tVar 5)))) tNext)
  (tSeq (tAsg (tOp (rIx K) (tOp (rIx K) (tVar 0) (tC (.int 1))) (tOp rModI (tCB (rIntP) (tCons (tOp (rIx K) (tVar 0) (tC (.int 2))) tNil)) (tCB (rLenP K) (tCons (tOp (rIx K) (tVar 0) (tC (.int 1))) tNil)))) (gName 3))
  (tSeq (tAsg (tOp rModI (tCB (rIntP) (tCons (tOp (rAddP K) (tOp (rAddP K) (tOp (rMulP K) (tVar 3) (tC (.int 40692))) (tOp (rMulP K) (tOp (rIx K) (tVar 0) (tC (.int 2))) (tC (.int 52774)))) (tC (.int 3791))) tNil)) (tC (.int 2147483399))) (gName 4))
  (tSeq (tAsg (tOp rModI (tCB (rIntP) (tCons (tOp (rAddP K) (tOp (rAddP K) (tOp (rMulP K) (tVar 4) (tVar 4)) (tOp (rMulP K) (tOp (rIx K) (tVar 0) (tC (.int 2))) (tC (.int 9973)))) (tOp rDivI (tVar 3) (tC (.int 11)))) tNil)) (tC (.int 1999993))) (gName 4))
  (tSeq (tAsg (tOp rModI (tCB (rIntP) (tCons (tOp (rAddP K) (tOp (rAddP K) (tOp (rMulP K) (tOp (rMulP K) (tVar 4) (tVar 4)) (tC (.int 39373))) (tVar 3)) (tC (.int 101))) tNil)) (tC (.int 999999937))) (gName 4))
  (tRet (tOp rModI (tCB (rIntP) (tCons (tOp rDivI (tVar 4) (tC (.int 7))) tNil)) (tVar 1)))))))))))
section
variable {H : Hp} {b g c : Addr} {m : Int} {s2 s3 s4 s5 : Option V} {D : Ends} {K : PySem.W.Frag}
/-- what stands behind a draw -/
theorem draw_raw (hm : 0 < m) (hm2 : m < 1073741824) (j : BJ b g c H) (fin : ∀ (d : Int) H', 0 ≤ d → d < m → BJ b g c H' → (∀ a, a ≠ b → a ≠ g → a ≠ c → H' a = H a) → D.rt (.int d) H') :
    t_draw K D [some (.ref b), some (.int m), s2, s3, s4, s5] H := by
  obtain ⟨h1, h2, h3, n, gs, cs, q1, q2, q3, q4⟩ := j
  refine vl_op (vl_var rfl) vl_c (o_ix (u := .ref g) q1 rfl) _ ?_
  refine vl_op (vl_op (vl_var rfl) vl_c (o_ix (u := .int n) q1 rfl)) vl_c o_add _ ?_
  refine vl_var rfl _ (vl_c _ ⟨b, _, 2, 2, rfl, rfl, q1, rfl, ?_⟩)
  generalize hH1 : upd H b (.lst ([V.ref g, .ref c, .int n].set 2 (.int (n + 1)))) = H1
  have f1 : H1 b = some (.lst [.ref g, .ref c, .int (n + 1)]) := by rw [← hH1]; exact upd_same
  have f2 : H1 g = some (.lst (gs.map V.int)) := by rw [← hH1, upd_ne (Ne.symm h1)]; exact q2
  have f3 : H1 c = some (.lst (cs.map V.int)) := by rw [← hH1, upd_ne (Ne.symm h2)]; exact q3
  have f4 : ∀ a, a ≠ b → a ≠ g → a ≠ c → H1 a = H a := fun a z _ _ => by rw [← hH1, upd_ne z]
  clear hH1 q1 q2 q3
  -- the loop
  refine ⟨fun k σ' H' => ∃ gs' : List Int, k = gs'.length ∧ σ' = [some (.ref b), some (.int m), some (.ref g), s3, s4, s5] ∧ H' b = some (.lst [.ref g, .ref c, .int (n + 1)]) ∧ H' g = some (.lst (gs'.map V.int)) ∧ H' c = some (.lst (cs.map V.int)) ∧ ∀ a, a ≠ b → a ≠ g → a ≠ c → H' a = H a, ⟨_, gs, rfl, rfl, f1, f2, f3, f4⟩, ?_⟩
  rintro k σ' H' ⟨gs', rfl, rfl, f1, f2, f3, f4⟩
  have ln : Vl (tCB (rLenP K) (tCons (tVar 2) tNil)) [some (.ref b), some (.int m), some (.ref g), s3, s4, s5] H' (.int (gs'.map V.int).length) := vl_len (vl_var rfl) f2
  -- what comes behind the loop
  have rest : ∀ (gs' : List Int) (H' : Hp), H' b = some (.lst [.ref g, .ref c, .int (n + 1)]) → H' g = some (.lst (gs'.map V.int)) → H' c = some (.lst (cs.map V.int)) → (∀ a, a ≠ b → a ≠ g → a ≠ c → H' a = H a) →
      (tSeq (tIfS (tTest (tOp rGtI (tCB (rLenP K) (tCons (tVar 2) tNil)) (tC (.int 0)))) (tSeq (tAsg (tOp rModI (tCB (rIntP) (tCons (tOp (rIx K) (tVar 2) (tUn rNegI (tC (.int 1)))) tNil)) (tVar 1)) (gName 5))
  (tSeq (tAsg (tOp rDivI (tOp (rIx K) (tVar 2) (tUn rNegI (tC (.int 1)))) (tVar 1)) (gSub (tVar 2) (tUn rNegI (tC (.int 1))) rSetL))
  (tRet (tVar 5)))) tNext)
  (tSeq (tAsg (tOp (rIx K) (tOp (rIx K) (tVar 0) (tC (.int 1))) (tOp rModI (tCB (rIntP) (tCons (tOp (rIx K) (tVar 0) (tC (.int 2))) tNil)) (tCB (rLenP K) (tCons (tOp (rIx K) (tVar 0) (tC (.int 1))) tNil)))) (gName 3))
  (tSeq (tAsg (tOp rModI (tCB (rIntP) (tCons (tOp (rAddP K) (tOp (rAddP K) (tOp (rMulP K) (tVar 3) (tC (.int 40692))) (tOp (rMulP K) (tOp (rIx K) (tVar 0) (tC (.int 2))) (tC (.int 52774)))) (tC (.int 3791))) tNil)) (tC (.int 2147483399))) (gName 4))
  (tSeq (tAsg (tOp rModI (tCB (rIntP) (tCons (tOp (rAddP K) (tOp (rAddP K) (tOp (rMulP K) (tVar 4) (tVar 4)) (tOp (rMulP K) (tOp (rIx K) (tVar 0) (tC (.int 2))) (tC (.int 9973)))) (tOp rDivI (tVar 3) (tC (.int 11)))) tNil)) (tC (.int 1999993))) (gName 4))
  (tSeq (tAsg (tOp rModI (tCB (rIntP) (tCons (tOp (rAddP K) (tOp (rAddP K) (tOp (rMulP K) (tOp (rMulP K) (tVar 4) (tVar 4)) (tC (.int 39373))) (tVar 3)) (tC (.int 101))) tNil)) (tC (.int 999999937))) (gName 4))
  (tRet (tOp rModI (tCB (rIntP) (tCons (tOp rDivI (tVar 4) (tC (.int 7))) tNil)) (tVar 1)))))))) D [some (.ref b), some (.int m), some (.ref g), s3, s4, s5] H' := by
    intro gs' H' f1 f2 f3 f4
    have ln : Vl (tCB (rLenP K) (tCons (tVar 2) tNil)) [some (.ref b), some (.int m), some (.ref g), s3, s4, s5] H' (.int (gs'.map V.int).length) := vl_len (vl_var rfl) f2
    refine vl_op ln vl_c o_gt _ ⟨_, rfl, br (fun hlt => ?_) (fun hlt => ?_)⟩
    · have hlt : 0 < gs'.length := by simpa using hlt
      obtain ⟨gl, w, hw⟩ : ∃ gl w, gs' = gl ++ [w] := ⟨gs'.dropLast, gs'.getLast (by intro e; subst e; simp at hlt), (List.dropLast_concat_getLast _).symm⟩
      subst hw
      have at1 : atI ((gl ++ [w]).map V.int) (-1) = some (.int w) := by
        rw [List.map_append]
        exact at_last _ _
      have ix : ixN ((gl ++ [w]).map V.int).length (-1) = some gl.length := by
        rw [List.length_map, List.length_append, List.length_singleton, ix_last]
      refine vl_op (vl_int (vl_op (vl_var rfl) (vl_neg vl_c) (o_ix f2 at1))) (vl_var rfl) (o_mod hm) _ ?_
      refine vl_op (vl_op (vl_var rfl) (vl_neg vl_c) (o_ix f2 at1)) (vl_var rfl) (o_div ⟨hm, hm2⟩) _ ?_
      refine vl_var rfl _ (vl_neg vl_c _ ⟨g, _, -1, _, rfl, rfl, f2, ix, ?_⟩)
      refine vl_var rfl _ (fin _ _ (Int.emod_nonneg _ (by omega)) (Int.emod_lt_of_pos _ hm) ⟨h1, h2, h3, n + 1, gl ++ [w / m], cs, ?_, ?_, ?_, q4⟩ ?_)
      · rw [upd_ne h1]
        exact f1
      · rw [upd_same]
        simp
      · rw [upd_ne (Ne.symm h3)]
        exact f3
      · intro a a1 a2 a3
        rw [upd_ne a2]
        exact f4 a a1 a2 a3
    · have hl : (0 : Int) < (cs.map V.int).length := by
        cases cs with
        | nil => exact absurd rfl q4
        | cons => simp
      obtain ⟨ce, hce⟩ : ∃ ce : Int, atI (cs.map V.int) ((n + 1) % ((cs.map V.int).length : Int)) = some (.int ce) := by
        have e0 := Int.emod_nonneg (n + 1) (show ((cs.map V.int).length : Int) ≠ 0 by omega)
        have e1 := Int.emod_lt_of_pos (n + 1) hl
        have hk : ((n + 1) % ((cs.map V.int).length : Int)).toNat < cs.length := by
          simp only [List.length_map] at e0 e1 ⊢
          omega
        refine ⟨cs[((n + 1) % ((cs.map V.int).length : Int)).toNat], ?_⟩
        unfold atI ixN
        rw [if_pos e0, if_pos e1]
        simp only [Option.bind_some]
        rw [List.getElem?_map, List.getElem?_eq_getElem hk]
        rfl
      have b1 : ∀ s : L2.St, s[0]? = some (some (.ref b)) → Vl (tOp (rIx K) (tVar 0) (tC (.int 1))) s H' (.ref c) := fun s hs => vl_op (vl_var hs) vl_c (o_ix f1 rfl)
      have b2 : ∀ s : L2.St, s[0]? = some (some (.ref b)) → Vl (tOp (rIx K) (tVar 0) (tC (.int 2))) s H' (.int (n + 1)) := fun s hs => vl_op (vl_var hs) vl_c (o_ix f1 rfl)
      refine vl_op (b1 _ rfl) (vl_op (vl_int (b2 _ rfl)) (vl_len (b1 _ rfl) f3) (o_mod hl)) (o_ix f3 hce) _ ?_
      refine vl_op (vl_int (vl_op (vl_op (vl_op (vl_var rfl) vl_c (o_mul (.inr (by decide)))) (vl_op (b2 _ rfl) vl_c (o_mul (.inr (by decide)))) o_add) vl_c o_add)) vl_c (o_mod (by decide)) _ ?_
      generalize hm1 : (ce * 40692 + (n + 1) * 52774 + 3791) % 2147483399 = m1
      have m1a : 0 ≤ m1 := by rw [← hm1]; exact Int.emod_nonneg _ (by decide)
      have m1b : m1 < 2147483399 := by rw [← hm1]; exact Int.emod_lt_of_pos _ (by decide)
      refine vl_op (vl_int (vl_op (vl_op (vl_op (vl_var rfl) (vl_var rfl) (o_mul (i := m1) (j := m1) (.inl ⟨by omega, by omega⟩))) (vl_op (b2 _ rfl) vl_c (o_mul (.inr (by decide)))) o_add) (vl_op (vl_var rfl) vl_c (o_div (by decide))) o_add)) vl_c (o_mod (by decide)) _ ?_
      generalize hm2' : (m1 * m1 + (n + 1) * 9973 + ce / 11) % 1999993 = m2
      have m2a : 0 ≤ m2 := by rw [← hm2']; exact Int.emod_nonneg _ (by decide)
      have m2b : m2 < 1999993 := by rw [← hm2']; exact Int.emod_lt_of_pos _ (by decide)
      refine vl_op (vl_int (vl_op (vl_op (vl_op (vl_op (vl_var rfl) (vl_var rfl) (o_mul (i := m2) (j := m2) (.inl ⟨by omega, by omega⟩))) vl_c (o_mul (.inr (by decide)))) (vl_var rfl) o_add) vl_c o_add)) vl_c (o_mod (by decide)) _ ?_
      refine vl_op (vl_int (vl_op (vl_var rfl) vl_c (o_div (by decide)))) (vl_var rfl) (o_mod hm) _ ?_
      exact fin _ _ (Int.emod_nonneg _ (by omega)) (Int.emod_lt_of_pos _ hm) ⟨h1, h2, h3, n + 1, gs', cs, f1, f2, f3, q4⟩ f4
  show tAnd _ _ _ _ _
  refine vl_op ln vl_c o_gt _ ⟨_, rfl, ?_⟩
  refine br (fun hlt => ?_) (fun hlt => ?_)
  · have hlt : 0 < gs'.length := by simpa using hlt
    obtain ⟨gl, w, hw⟩ : ∃ gl w, gs' = gl ++ [w] := ⟨gs'.dropLast, gs'.getLast (by intro e; subst e; simp at hlt), (List.dropLast_concat_getLast _).symm⟩
    subst hw
    have at1 : atI ((gl ++ [w]).map V.int) (-1) = some (.int w) := by
      rw [List.map_append]
      exact at_last _ _
    refine vl_op (vl_op (vl_var rfl) (vl_neg vl_c) (o_ix f2 at1)) vl_c o_eq _ ⟨_, rfl, br (fun _ => ?_) (fun _ => ?_)⟩
    · refine ⟨fun σ' H' => ∃ k', k' < (gl ++ [w]).length ∧ ∃ gs' : List Int, k' = gs'.length ∧ σ' = [some (.ref b), some (.int m), some (.ref g), s3, s4, s5] ∧ H' b = some (.lst [.ref g, .ref c, .int (n + 1)]) ∧ H' g = some (.lst (gs'.map V.int)) ∧ H' c = some (.lst (cs.map V.int)) ∧ ∀ a, a ≠ b → a ≠ g → a ≠ c → H' a = H a, fun σ' H' z => z, ?_⟩
      refine ⟨.ref g, rfl, .inl ⟨rfl, _, .inl (.inl f2)⟩, g, _, .int w, rfl, rfl, f2, by simp, gl.length, by simp, gl, rfl, rfl, ?_, ?_, ?_, ?_⟩
      · rw [upd_ne h1]
        exact f1
      · rw [upd_same]
        simp
      · rw [upd_ne (Ne.symm h3)]
        exact f3
      · intro a a1 a2 a3
        rw [upd_ne a2]
        exact f4 a a1 a2 a3
    · exact rest _ _ f1 f2 f3 f4
  · exact rest _ _ f1 f2 f3 f4
end
end Mh
namespace Mh
open PySem PySem.Spec PyProof.Rows L2 TL
section
variable {K : PySem.W.Frag} {vs : List V} {H : Hp} {Q : VK} {E : XK}
theorem go_draw (h : sp_law_draw K vs H Q E) : t_draw K { nx := fun _ H' => Q .non H', rt := Q } (L2.start ["box", "limit", "great", "cell", "mixed", "digit"] vs) H := by
  obtain ⟨b, g, c, ks, S, Z, ⟨m, h0, h1, rfl, rfl, rfl⟩, r, f⟩ := h
  have hl := r.len
  match vs, hl with
  | [v, w], _ =>
    obtain ⟨v', e1, e2⟩ := r.sl 0 _ rfl
    obtain ⟨w', e3, e4⟩ := r.sl 1 _ rfl
    have e1 : v = v' := by simpa using e1
    have e3 : w = w' := by simpa using e3
    subst e1 e3
    have e2 : v = .ref b := e2
    subst e2
    obtain rfl := dp_int e4
    exact draw_raw h0 h1 r.j fun d H' d0 d1 j' k => f _ _ _ ⟨d, d0, d1, rfl⟩ ⟨⟨j', fun a o e n => (k a (fun z => n (.inl z)) (fun z => n (.inr (.inl z))) (fun z => n (.inr (.inr z)))).trans e⟩, .int d⟩
end
/-! ### _law_box -/
def sp_law_box (K : PySem.W.Frag) : Sp := fun vs H Q E => ∃ (l : Addr) (ns : List Int), vs = [.ref l] ∧ SqL K H l (ns.map V.int) ∧ ∀ b g c H', H b = none → H g = none → H c = none → BJ b g c H' → (∀ a o, H a = some o → H' a = some o) → Q (.ref b) H'
def t_box (K : PySem.W.Frag) : TS := (tSeq (tAsg (tLc (iAny K (tSl (rSlP K) (tVar 0) tNoPart (tPart (tC (.int 63))))) (gName 3) tYes (tCB (rAbs) (tCons (tCB (rIntP) (tCons (tVar 3) tNil)) tNil)) [3]) (gName 1))
  (tSeq (tAsg (tLc (iAny K (tVar 1)) (gName 3) (tTest (tOp rGeI (tVar 3) (tOp rPowI (tC (.int 10)) (tC (.int 18))))) (tVar 3) [3]) (gName 2))
  (tRet (tLst (tCons (tLstRev K (tVar 2)) (tCons (tOp (rAddP K) (tLc (iAny K (tVar 1)) (gName 3) tYes (tOp rModI (tCB (rIntP) (tCons (tVar 3) tNil)) (tC (.int 1000000007))) [3]) (tLst (tCons (tC (.int 7)) tNil))) (tCons (tC (.int 0)) tNil)))))))
theorem raw_seq {C : Ct} {t u : TS} {ρ : List Kd} {N : List Kd → Prop} {D : Ends} {σ : L2.St} {H : Hp} (h : BS C t ρ { nx := N }) (k : ∀ ρ' σ H, N ρ' → Rep C σ H ρ' → u D σ H) (r : Rep C σ H ρ) : tSeq t u D σ H :=
  h σ H r { D with nx := u D } ⟨fun ρ σ H n r => k ρ σ H n r, fun _ _ _ z => False.elim z, fun _ _ _ z => False.elim z, fun _ _ _ z => False.elim z⟩
def ii : PyData → Int
  | .int i => i
  | _ => 0
theorem take_ints (ns : List Int) : cutD (ns.map PyData.int) none (some 63) = (ns.take 63).map PyData.int := by
  unfold cutD
  rw [HT.sIx_none, show ((63 : Int)) = ((63 : Nat) : Int) from rfl, HT.sIx_nat]
  simp [List.map_take]
theorem map_ints (f : PyData → PyData) (g : Int → Int) (h : ∀ i, f (.int i) = .int (g i)) (ns : List Int) : (ns.map PyData.int).map f = (ns.map g).map PyData.int := by
  rw [List.map_map, List.map_map]
  exact List.map_congr_left fun i _ => h i
theorem fil_ints (p : PyData → Bool) (ns : List Int) : ((ns.map PyData.int).filter p).map id = (ns.filter fun i => p (.int i)).map PyData.int := by
  rw [List.map_id, List.filter_map]
  rfl
theorem go_box {K : PySem.W.Frag} {vs : List V} {H : Hp} {Q : VK} {E : XK} (h : sp_law_box K vs H Q E) : t_box K { nx := fun _ H' => Q .non H', rt := Q } (L2.start ["script", "cells", "great", "cell"] vs) H := by
  obtain ⟨l, ns, rfl, sq, fin⟩ := h
  let C : Ct := ⟨K, noF, noJ, H, false, [], fun _ _ _ => False, noZ⟩
  have ok : C.Ok := ⟨fun _ _ _ _ => trivial, fun _ _ _ f => f.elim, trivial, fun _ _ _ _ _ z => z.elim⟩
  have nown : ∀ a, ¬ Own [Kd.dat (.list (ns.map .int)), .un, .un, .un] a := by
    rintro a ⟨i, ds, e⟩
    match i with
    | 0 => cases e
    | 1 => cases e
    | 2 => cases e
    | 3 => cases e
    | i + 4 => simp at e
  have em : msk C [Kd.dat (.list (ns.map .int)), .un, .un, .un] H = H := by
    funext a
    unfold msk
    rw [if_neg]
    rintro (z | z | z)
    · exact nown a z
    · exact z
    · cases z.1
  have r0 : Rep C [some (.ref l), none, none, none] H [.dat (.list (ns.map .int)), .un, .un, .un] := by
    refine ⟨ok, trivial, fun a o e _ => e, rfl, fun i j l ds es e => (nown l ⟨i, ds, e⟩).elim, fun l o => (nown l o).elim, fun i k e => ?_, fun p hp => by cases hp⟩
    match i with
    | 0 =>
      cases e
      refine ⟨_, rfl, ?_⟩
      rw [em]
      exact .lst sq (DpAll.of_ints ns)
    | 1 => cases e; trivial
    | 2 => cases e; trivial
    | 3 => cases e; trivial
    | i + 4 => simp at e
  have cut : cutD (ns.map PyData.int) none (some 63) = (ns.take 63).map PyData.int := take_ints ns
  have cl : (ns.take 63).length ≤ 63 := by rw [List.length_take]; omega
  generalize hms : (ns.take 63) = ms at cut cl
  let cs1 : List PyData := (ms.map fun i => if i < 0 then -i else i).map .int
  have e1 : E1 C (tLc (iAny K (tSl (rSlP K) (tVar 0) tNoPart (tPart (tC (.int 63))))) (gName 3) tYes (tCB (rAbs) (tCons (tCB (rIntP) (tCons (tVar 3) tNil)) tNil)) [3]) [.dat (.list (ns.map .int)), .un, .un, .un] (.new cs1) := by
    have q := e_lcMap (C := C) (j := 3) (te := tCB (rAbs) (tCons (tCB (rIntP) (tCons (tVar 3) tNil)) tNil)) (fun d => .int (if ii d < 0 then -(ii d) else ii d)) (i_list (e_slL (C := C) (ρ := [.dat (.list (ns.map .int)), .un, .un, .un]) (k := .dat (.list (ns.map .int))) (e_var (i := 0) rfl) o_none (o_some (i := 63) e_int) rfl) rfl) rfl (by rw [cut, List.length_map]; exact Nat.le_trans cl (by decide)) (fun n a ha => ?_)
    · rw [cut, map_ints _ (fun i => if i < 0 then -i else i) (fun i => rfl)] at q
      exact q
    · rw [cut, List.getElem?_map] at ha
      cases hb : ms[n]? with
      | none => rw [hb] at ha; cases ha
      | some i =>
        rw [hb] at ha
        cases ha
        exact ⟨e_cb1 (a_cons (e_cb1 (a_cons (e_var rfl) a_nil) c_int) a_nil) c_abs, rfl⟩
  refine raw_seq (b_asg (P := { nx := fun ρ' => ∃ l, ρ' = [.dat (.list (ns.map .int)), .own l cs1, .un, .un] }) (i := 1) e1 ?_) ?_ r0
  · rintro z rfl
    exact fun l => ⟨l, rfl⟩
  rintro _ σ1 H1 ⟨l1, rfl⟩ r1
  have cl1 : cs1.length ≤ sizeLine := by
    show ((ms.map _).map _).length ≤ _
    rw [List.length_map, List.length_map]
    exact Nat.le_trans cl (by decide)
  let cs2 : List PyData := ((ms.map fun i => if i < 0 then -i else i).filter fun i => decide (1000000000000000000 ≤ i)).map .int
  have at1 : ∀ (n : Nat) (a : PyData), cs1[n]? = some a → ∃ i, a = .int i := fun n a ha => by
    have ha : ((ms.map fun i => if i < 0 then -i else i).map PyData.int)[n]? = some a := ha
    rw [List.getElem?_map] at ha
    cases hb : (ms.map fun i => if i < 0 then -i else i)[n]? with
    | none => rw [hb] at ha; cases ha
    | some i =>
      rw [hb] at ha
      cases ha
      exact ⟨i, rfl⟩
  have e2 : E1 C (tLc (iAny K (tVar 1)) (gName 3) (tTest (tOp rGeI (tVar 3) (tOp rPowI (tC (.int 10)) (tC (.int 18))))) (tVar 3) [3]) [.dat (.list (ns.map .int)), .own l1 cs1, .un, .un] (.new cs2) := by
    have q := e_lcFil (C := C) (j := 3) (te := tVar 3) (tt := tTest (tOp rGeI (tVar 3) (tOp rPowI (tC (.int 10)) (tC (.int 18))))) id (fun d => decide (1000000000000000000 ≤ ii d)) (i_list (C := C) (ρ := [.dat (.list (ns.map .int)), .own l1 cs1, .un, .un]) (k := .own l1 cs1) (e_var (i := 1) rfl) rfl) rfl cl1 (fun n a ha => ?_) (fun n a ha _ => ?_)
    · rw [fil_ints] at q
      exact q
    · obtain ⟨i, rfl⟩ := at1 n a ha
      exact t_test (e_op1 (e_var rfl) (e_op1 e_int e_int (k_pow_i ⟨by decide, by decide, by decide⟩)) k_ge)
    · obtain ⟨i, rfl⟩ := at1 n a ha
      exact ⟨e_var rfl, rfl⟩
  refine raw_seq (b_asg (P := { nx := fun ρ' => ∃ l, ρ' = [.dat (.list (ns.map .int)), .own l1 cs1, .own l cs2, .un] }) (i := 2) e2 ?_) ?_ r1
  · rintro z rfl
    exact fun l => ⟨l, rfl⟩
  rintro _ σ2 H2 ⟨l2, rfl⟩ r2
  have e3 : E1 C (tLstRev K (tVar 2)) [.dat (.list (ns.map .int)), .own l1 cs1, .own l2 cs2, .un] (.new cs2.reverse) := e_lstRev (C := C) (k := .own l2 cs2) (e_var rfl) rfl
  have e4 : E1 C (tOp (rAddP K) (tLc (iAny K (tVar 1)) (gName 3) tYes (tOp rModI (tCB (rIntP) (tCons (tVar 3) tNil)) (tC (.int 1000000007))) [3]) (tLst (tCons (tC (.int 7)) tNil))) [.dat (.list (ns.map .int)), .own l1 cs1, .own l2 cs2, .un] (.new ((((ms.map fun i => if i < 0 then -i else i).map fun i => i % 1000000007) ++ [7]).map PyData.int)) := by
    have q := e_lcMap (C := C) (j := 3) (te := tOp rModI (tCB (rIntP) (tCons (tVar 3) tNil)) (tC (.int 1000000007))) (fun d => .int (ii d % 1000000007)) (i_list (C := C) (ρ := [.dat (.list (ns.map .int)), .own l1 cs1, .own l2 cs2, .un]) (k := .own l1 cs1) (e_var (i := 1) rfl) rfl) rfl cl1 (fun n a ha => ?_)
    · rw [show cs1 = _ from rfl, map_ints _ (fun i => i % 1000000007) (fun i => rfl)] at q
      have q2 := e_op1 (C := C) q (e_lst (C := C) (ds := [.int 7]) (a_cons e_int a_nil) rfl) (k_add_l (C := C) rfl rfl (by simp; exact Nat.le_trans (Nat.add_le_add_right cl 1) (by decide)))
      exact q2.is (by simp)
    · obtain ⟨i, rfl⟩ := at1 n a ha
      exact ⟨e_op1 (e_cb1 (a_cons (e_var rfl) a_nil) c_int) e_int (k_mod_i (by decide)), rfl⟩
  unfold tRet tLst
  refine e3 σ2 H2 r2 (fun v3 H3 => tCons (tOp (rAddP K) (tLc (iAny K (tVar 1)) (gName 3) tYes (tOp rModI (tCB (rIntP) (tCons (tVar 3) tNil)) (tC (.int 1000000007))) [3]) (tLst (tCons (tC (.int 7)) tNil))) (tCons (tC (.int 0)) tNil) σ2 H3 fun vs H4 => (v3 :: vs).length ≤ sizeLine ∧ ∀ l, H4 l = none → Q (.ref l) (upd H4 l (.lst (v3 :: vs)))) fun k3 v3 H3 s3 q3 o3 => e4 σ2 H3 (r2.up q3) (fun v4 H4 => [v3, v4, .int 0].length ≤ sizeLine ∧ ∀ l, H4 l = none → Q (.ref l) (upd H4 l (.lst [v3, v4, .int 0]))) fun k4 v4 H4 s4 q4 o4 => ?_
  subst s3 s4
  have o3' := o3.up r2 q4
  obtain ⟨g, vg, rfl, g1, g2, g3⟩ := o3'
  obtain ⟨c, vc, rfl, c1, c2, c3⟩ := o4
  obtain ⟨g', vg', eg, g1', g2', _⟩ := o3
  cases eg
  rw [show cs2.reverse = _ from rfl, ← List.map_reverse] at g3
  have g4 := DpAll.ints g3
  have c4 := DpAll.ints c3
  subst g4 c4
  have ngc : g ≠ c := fun e => by
    rw [e] at g2'
    rw [c1] at g2'
    cases g2'
  refine ⟨show 3 ≤ sizeLine by decide, fun b hb => ?_⟩
  have h0 : ∀ a o, H a = some o → H4 a = some o := fun a o e => q4.2 _ _ (q3.2 _ _ (r2.old a o e id) id) id
  have nb : ∀ a, H4 a = none → H a = none := fun a e => by
    cases z : H a with
    | none => rfl
    | some o =>
      rw [h0 a o z] at e
      cases e
  refine fin b g c _ (nb b hb) ?_ ?_ ⟨ne_of_none g2 hb |>.symm, ne_of_none c2 hb |>.symm, ngc, 0, _, _, upd_same, (upd_ne (ne_of_none g2 hb)).trans g2, (upd_ne (ne_of_none c2 hb)).trans c2, by simp⟩ ?_
  · exact r2.h0 g1
  · cases z : H c with
    | none => rfl
    | some o =>
      have := q3.2 _ _ (r2.old c o z id) id
      rw [c1] at this
      cases this
  · intro a o e
    rw [upd_ne (ne_of_none (h0 a o e) hb)]
    exact h0 a o e
end Mh
namespace Mh
open PySem PySem.Spec PyProof.Rows L2 TL
def t_is_figure (K : PySem.W.Frag) : TS := (tRet (tAndV (tOp (rNeP K) (tVar 0) (tC (.str ""))) (tOp rInS (tVar 0) (tC (.str "0123456789")))))
def t_figures_end (K : PySem.W.Frag) : TS := (tSeq (tAsg (tVar 1) (gName 2))
  (tSeq (tWhile (tTru K (tCall (sp_is_figure K) [] E0 (tCons (tSl (rSlP K) (tVar 0) (tPart (tVar 2)) (tPart (tOp (rAddP K) (tVar 2) (tC (.int 1))))) tNil))) (tAug 2 (tC (.int 1)) (ipI fun i j => i + j)))
  (tRet (tVar 2))))
def t_are_figures (K : PySem.W.Frag) : TS := (tSeq (tIfS (tOr (tTest (tOp (rEqP K) (tVar 0) (tC (.str "")))) (tTest (tOp (rNeP K) (tCall (sp_figures_end K) [] E0 (tCons (tVar 0) (tCons (tC (.int 0)) tNil))) (tCB (rLenP K) (tCons (tVar 0) tNil))))) (tRet (tC (.bl false))) tNext)
  (tRet (tOrV (tOp (rEqP K) (tVar 0) (tC (.str "0"))) (tOp (rNeP K) (tOp (rIx K) (tVar 0) (tC (.int 0))) (tC (.str "0"))))))
def t_number_of (K : PySem.W.Frag) : TS := (tSeq (tIfS (tOr (tTest (tOp rGtI (tCB (rLenP K) (tCons (tVar 0) tNil)) (tVar 1))) (tNot (tTru K (tCall (sp_are_figures K) [] E0 (tCons (tVar 0) tNil))))) (tRet (tC .non)) tNext)
  (tRet (tCB (rIntP) (tCons (tVar 0) tNil))))
def t_atom_text (K : PySem.W.Frag) : TS := (tSeq (tIfS (tTest (tOp rIsN (tVar 0) (tC .non))) (tRet (tC (.str "-"))) tNext)
  (tSeq (tIfS (tTru K (tCB (rIsi K) (tCons (tVar 0) (tCons (tC (.ty "str")) tNil)))) (tRet (tOp (rAddP K) (tOp (rAddP K) (tC (.str "\"")) (tVar 0)) (tC (.str "\"")))) tNext)
  (tRet (tCB (rStrP) (tCons (tVar 0) tNil)))))
def t_text_of (K : PySem.W.Frag) : TS := (tSeq (tAsg (tLst tNil) (gName 1))
  (tSeq (tAsg (tLst (tCons (tTup (tCons (tC (.bl true)) (tCons (tVar 0) tNil))) tNil)) (gName 2))
  (tSeq (tWhile (tTru K (tVar 2)) (tSeq (tAsg (tBM0 K "list" rPop (tVar 2)) (gTup K 2 (gCons (gName 3) (gCons (gName 4) gNil))))
  (tIfS (tNot (tTru K (tVar 3))) (tDrop (tBM K "list" rAppend (tVar 1) (tCons (tVar 4) tNil))) (tIfS (tTru K (tCB (rIsi K) (tCons (tVar 4) (tCons (tC (.ty "tuple")) tNil)))) (tSeq (tDrop (tBM K "list" rAppend (tVar 1) (tCons (tC (.str "(")) tNil)))
  (tSeq (tDrop (tBM K "list" rAppend (tVar 2) (tCons (tTup (tCons (tC (.bl false)) (tCons (tC (.str ")")) tNil))) tNil)))
  (tFor (RT.iRevA K (tVar 4)) (gName 5) (tSeq (tDrop (tBM K "list" rAppend (tVar 2) (tCons (tTup (tCons (tC (.bl false)) (tCons (tC (.str ",")) tNil))) tNil)))
  (tDrop (tBM K "list" rAppend (tVar 2) (tCons (tTup (tCons (tC (.bl true)) (tCons (tVar 5) tNil))) tNil))))))) (tDrop (tBM K "list" rAppend (tVar 1) (tCons (tCall (sp_atom_text K) [] E0 (tCons (tVar 4) tNil)) tNil)))))))
  (tRet (tM1 (rJoin K) (tC (.str "")) (tVar 1))))))
def t_is_letter (K : PySem.W.Frag) : TS := (tRet (tAndV (tOp (rNeP K) (tVar 0) (tC (.str ""))) (tOp rInS (tVar 0) (tC (.str "abcdefghijklmnopqrstuvwxyz")))))
def t_told (K : PySem.W.Frag) : TS := (tRet (tCall (sp_text_of K) [] E0 (tCons (tVar 0) tNil)))

section
variable {K : PySem.W.Frag} {vs : List V} {H : Hp} {Q : VK} {E : XK}
theorem go_is_figure (h : sp_is_figure K vs H Q E) : t_is_figure K { nx := fun _ H' => Q .non H', rt := Q } (L2.start ["sign"] vs) H := by
  refine sp_body ?_ h
  rintro H E ks S Z ⟨o, rfl, rfl, rfl⟩ n _
  change BS _ _ [.dat (.str (sg o))] _
  refine b_ret (d := .bool (o.any fig)) ((e_and (a := !o.isNone) (b := o.any fig) ((e_op1 (e_var rfl) e_str k_ne_s).is (by rw [sg_ne])) fun hn => ?_).is ?_) rfl rfl
  · cases o with
    | none => cases hn
    | some c => exact (e_op1 (C := ⟨K, noF, noJ, H, false, [], E, noZ⟩) (e_var rfl) e_str k_inS).is (by rw [mem_digs]; rfl)
  · cases o <;> simp
theorem go_is_letter (h : sp_is_letter K vs H Q E) : t_is_letter K { nx := fun _ H' => Q .non H', rt := Q } (L2.start ["sign"] vs) H := by
  refine sp_body ?_ h
  rintro H E ks S Z ⟨o, rfl, rfl, rfl⟩ n _
  change BS _ _ [.dat (.str (sg o))] _
  refine b_ret (d := .bool (o.any ltr)) ((e_and (a := !o.isNone) (b := o.any ltr) ((e_op1 (e_var rfl) e_str k_ne_s).is (by rw [sg_ne])) fun hn => ?_).is ?_) rfl rfl
  · cases o with
    | none => cases hn
    | some c => exact (e_op1 (C := ⟨K, noF, noJ, H, false, [], E, noZ⟩) (e_var rfl) e_str k_inS).is (by rw [mem_ltrs]; rfl)
  · cases o <;> simp
/-- the loop over signs of a kind -/
theorem b_signs {C : Ct} {sp : Sp} {p : Nat → Bool} (hsp : sp = SpP C.K (A_sg p)) {z : Str} {a : Nat} (hz : z.length ≤ sizeLine) (ha : a ≤ z.length) {u : TS} {P : Po} (h : BS C u [.dat (.str z), .dat (.int (a : Int)), .dat (.int ((a + (tw p z a).length : Nat) : Int))] P) :
    BS C (tSeq (tAsg (tVar 1) (gName 2)) (tSeq (tWhile (tTru C.K (tCall sp [] E0 (tCons (tSl (rSlP C.K) (tVar 0) (tPart (tVar 2)) (tPart (tOp (rAddP C.K) (tVar 2) (tC (.int 1))))) tNil))) (tAug 2 (tC (.int 1)) (ipI fun i j => i + j))) u)) [.dat (.str z), .dat (.int (a : Int)), .un] P := by
  subst hsp
  refine q_asg (e_var rfl) (b_seq ?_)
  refine b_while (T := fun ρ b => ∃ k : Nat, k ≤ (tw p z a).length ∧ ρ = [.dat (.str z), .dat (.int (a : Int)), .dat (.int ((a + k : Nat) : Int))] ∧ b = decide (k < (tw p z a).length))
    (fun m ρ => ∃ k : Nat, k + m = (tw p z a).length ∧ ρ = [.dat (.str z), .dat (.int (a : Int)), .dat (.int ((a + k : Nat) : Int))]) (tw p z a).length ⟨0, by omega, rfl⟩ ?_ ?_ ?_
  · rintro m _ ⟨k, hk, rfl⟩
    refine t_truS (b := true) (e_callP (ks' := [.dat (.str (sg (tl z)[a + k]?))]) (a_cons (e_sign (p := a + k) rfl rfl hz) a_nil) (.cons (.dat fun h => by cases h) .nil) ⟨_, rfl, rfl, rfl⟩ fun k h => h) ?_
    rintro _ rfl
    refine ⟨_, rfl, k, by omega, rfl, ?_⟩
    have := tw_at p ((tl z).drop a) k (by show k ≤ (tw p z a).length; omega)
    rw [List.getElem?_drop] at this
    exact this
  · rintro m _ ⟨k, hk, rfl⟩ ⟨k', hk', e, hb⟩
    have hk2 : k = k' := by
      simp at e
      omega
    subst hk2
    have : ¬ k < (tw p z a).length := by simpa using hb.symm
    have e2 : k = (tw p z a).length := by omega
    rw [e2]
    exact h
  · rintro m _ ⟨k, hk, rfl⟩ ⟨k', hk', e, hb⟩
    have hk2 : k = k' := by
      simp at e
      omega
    subst hk2
    have hlt : k < (tw p z a).length := by simpa using hb.symm
    refine b_aug (a := ((a + k : Nat) : Int)) (b := 1) rfl e_int ⟨m - 1, by omega, k + 1, by omega, ?_⟩
    show [Kd.dat (.str z), .dat (.int (a : Int)), .dat (.int (((a + k : Nat) : Int) + 1))] = _
    rw [show ((a + k : Nat) : Int) + 1 = ((a + (k + 1) : Nat) : Int) by omega]
theorem go_figures_end (h : sp_figures_end K vs H Q E) : t_figures_end K { nx := fun _ H' => Q .non H', rt := Q } (L2.start ["text", "at", "end"] vs) H := by
  refine sp_body ?_ h
  rintro H E ks S Z ⟨z, p, rfl, hp, hz, rfl, rfl⟩ n _
  change BS _ _ [.dat (.str z), .dat (.int p), .un] _
  exact b_signs (C := ⟨K, noF, noJ, H, false, [], E, noZ⟩) rfl hz hp (b_ret (e_var rfl) rfl rfl)
theorem tl_nil {z : Str} : decide (z = ("" : Str)) = decide (tl z = []) := by
  refine decide_eq_decide.mpr ⟨fun h => by rw [h]; rfl, fun h => ext_tl (by rw [h]; rfl)⟩
theorem tl_zero {z : Str} : decide (z = ("0" : Str)) = decide (tl z = [48]) := by
  refine decide_eq_decide.mpr ⟨fun h => by rw [h]; rfl, fun h => ext_tl (by rw [h]; rfl)⟩
theorem go_are_figures (h : sp_are_figures K vs H Q E) : t_are_figures K { nx := fun _ H' => Q .non H', rt := Q } (L2.start ["word"] vs) H := by
  refine sp_body ?_ h
  rintro H E ks S Z ⟨z, rfl, hz, rfl, rfl⟩ n _
  change BS ⟨K, noF, noJ, H, false, [], E, noZ⟩ _ [.dat (.str z)] _
  have t1 : T1 ⟨K, noF, noJ, H, false, [], E, noZ⟩ (tOr (tTest (tOp (rEqP K) (tVar 0) (tC (.str "")))) (tTest (tOp (rNeP K) (tCall (sp_figures_end K) [] E0 (tCons (tVar 0) (tCons (tC (.int 0)) tNil))) (tCB (rLenP K) (tCons (tVar 0) tNil))))) [.dat (.str z)] (decide (tl z = []) || !(tl z).all fig) := by
    refine t_or (t_test ((e_op1 (C := ⟨K, noF, noJ, H, false, [], E, noZ⟩) (e_var rfl) e_str k_eq_s).is (by rw [tl_nil]))) fun _ => t_test ?_
    refine (e_op1 (C := ⟨K, noF, noJ, H, false, [], E, noZ⟩) (e_callP (ks' := [.dat (.str z), .dat (.int ((0 : Nat) : Int))]) (a_cons (e_var rfl) (a_cons e_int a_nil)) (.cons (.dat fun h => by cases h) (.cons (.dat fun h => by cases h) .nil)) ⟨z, 0, rfl, Nat.zero_le _, hz, rfl, rfl⟩ fun k h => h) (e_cb1 (a_cons (e_var rfl) a_nil) (c_lenS hz)) k_ne_i).is ?_
    have e0 := tw_all (p := fig) (tl z)
    have e1 : decide (((0 + (tw fig z 0).length : Nat) : Int) = (z.length : Int)) = (tl z).all fig := by
      rw [← e0]
      refine decide_eq_decide.mpr ?_
      unfold tw
      rw [List.drop_zero, len_tl]
      omega
    rw [e1]
  refine q_when t1 (fun hb => b_ret e_bl rfl ?_) fun hb => ?_
  · have hf : arf (tl z) = false := by
      unfold arf
      have hb := hb.symm
      rw [Bool.or_eq_true] at hb
      rcases hb with hb | hb
      · have hb : tl z = [] := by simpa using hb
        rw [hb]
        rfl
      · have hb : (tl z).all fig = false := by simpa using hb
        rw [hb]
        rfl
    rw [hf]
  · have hb := hb.symm
    rw [Bool.or_eq_false_iff] at hb
    have hne : tl z ≠ [] := by simpa using hb.1
    have hall : (tl z).all fig = true := by simpa using hb.2
    obtain ⟨c, r, hc⟩ := List.exists_cons_of_ne_nil hne
    refine b_ret (d := .bool (arf (tl z))) ((e_or (a := decide (tl z = [48])) (b := !decide (c = 48)) ((e_op1 (C := ⟨K, noF, noJ, H, false, [], E, noZ⟩) (e_var rfl) e_str k_eq_s).is (by rw [tl_zero])) fun _ => ?_).is ?_) rfl rfl
    · refine (e_op1 (C := ⟨K, noF, noJ, H, false, [], E, noZ⟩) (e_op1 (C := ⟨K, noF, noJ, H, false, [], E, noZ⟩) (e_var rfl) e_int (k_ixS hz (c := c) (by rw [hc]; exact at_nat (n := 0) rfl))) e_str k_ne_s).is ?_
      have e3 : decide ((⟨#[c]⟩ : Str) = ("0" : Str)) = decide (c = 48) := by
        rw [tl_zero]
        refine decide_eq_decide.mpr ?_
        show [c] = [48] ↔ c = 48
        simp
      rw [e3]
    · unfold arf
      rw [hall, Bool.true_and]
      congr 2
      congr 1
      rw [hc]
theorem arf_fig {w : List Nat} (h : arf w = true) : (w.all (fun c => decide (48 ≤ c) && decide (c ≤ 57)) = true) ∧ w ≠ [] := by
  unfold arf at h
  rw [Bool.and_eq_true] at h
  refine ⟨h.1, fun e => ?_⟩
  rw [e] at h
  exact absurd h.2 (by decide)
theorem go_number_of (h : sp_number_of K vs H Q E) : t_number_of K { nx := fun _ H' => Q .non H', rt := Q } (L2.start ["word", "most"] vs) H := by
  refine sp_body ?_ h
  rintro H E ks S Z ⟨z, m, rfl, hz, hm, rfl, rfl⟩ n _
  change BS ⟨K, noF, noJ, H, false, [], E, noZ⟩ _ [.dat (.str z), .dat (.int m)] _
  have t1 : T1 ⟨K, noF, noJ, H, false, [], E, noZ⟩ (tOr (tTest (tOp rGtI (tCB (rLenP K) (tCons (tVar 0) tNil)) (tVar 1))) (tNot (tTru K (tCall (sp_are_figures K) [] E0 (tCons (tVar 0) tNil))))) [.dat (.str z), .dat (.int m)] (decide (m < (z.length : Int)) || !arf (tl z)) :=
    t_or (t_test (e_op1 (C := ⟨K, noF, noJ, H, false, [], E, noZ⟩) (e_cb1 (a_cons (e_var rfl) a_nil) (c_lenS hz)) (e_var rfl) k_gt)) fun _ => t_not (t_tru (C := ⟨K, noF, noJ, H, false, [], E, noZ⟩) (e_callP (ks' := [.dat (.str z)]) (a_cons (e_var rfl) a_nil) (.cons (.dat fun h => by cases h) .nil) ⟨z, rfl, hz, rfl, rfl⟩ fun k h => h) rfl)
  refine q_when t1 (fun hb => b_ret e_non rfl ?_) fun hb => ?_
  · show _ = _
    unfold numV
    rw [← hb]
    rfl
  · have hb2 := hb.symm
    rw [Bool.or_eq_false_iff] at hb2
    have hl : (z.length : Int) ≤ m := by simpa using hb2.1
    have ha : arf (tl z) = true := by simpa using hb2.2
    obtain ⟨h1, h2⟩ := arf_fig ha
    have hi := SX.int_S h1 h2 (by rw [← len_tl]; omega)
    rw [show (SX.S (tl z)) = z from SX.S_tl z] at hi
    refine b_ret (e_cb1 (C := ⟨K, noF, noJ, H, false, [], E, noZ⟩) (a_cons (e_var rfl) a_nil) (c_intS hi (by omega))) rfl ?_
    show _ = _
    unfold numV
    rw [← hb]
    rfl

theorem quo : tl ("\"" : Str) = [34] := by decide +kernel
theorem go_atom_text (h : sp_atom_text K vs H Q E) : t_atom_text K { nx := fun _ H' => Q .non H', rt := Q } (L2.start ["value"] vs) H := by
  refine sp_body ?_ h
  rintro H E ks S Z ⟨d, rfl, hg, ht, hl, rfl, rfl⟩ n _
  change BS ⟨K, noF, noJ, H, false, [], E, noZ⟩ _ [.dat d] _
  refine q_when (t_test (C := ⟨K, noF, noJ, H, false, [], E, noZ⟩) (e_op1 (e_var rfl) e_non k_isN)) (fun hb => b_ret e_str rfl ?_) fun hb => ?_
  · cases d with
    | none => rfl
    | _ => cases hb
  cases d with
  | none => cases hb
  | bool b => cases hg
  | list xs => cases hg
  | dict xs => cases hg
  | tuple xs => cases ht
  | str x =>
    refine q_when (T := fun b => b = true) (t_tru (e_isi (C := ⟨K, noF, noJ, H, false, [], E, noZ⟩) (tc := tC .non) (e_var rfl) rfl (b := true) (by decide +kernel)) rfl) (fun _ => ?_) (fun h => by cases h)
    have hx : x.length ≤ 100000 := by
      rw [txt] at hl
      rw [len_tl]
      simp at hl ⊢
      omega
    have h1 : (("\"" : Str)).length = 1 := by decide +kernel
    refine b_ret ((e_op1 (C := ⟨K, noF, noJ, H, false, [], E, noZ⟩) (e_op1 (C := ⟨K, noF, noJ, H, false, [], E, noZ⟩) e_str (e_var rfl) (k_add_s (by rw [h1]; exact Nat.le_trans (Nat.add_le_add_left hx 1) (by decide)))) e_str (k_add_s ?_)).is ?_) rfl rfl
    · rw [len_tl, tl_append, List.length_append, ← len_tl, ← len_tl, h1]
      exact Nat.le_trans (Nat.add_le_add_right (Nat.add_le_add_left hx 1) 1) (by decide)
    · refine congrArg (fun z => Kd.dat (PyData.str z)) (ext_tl ?_)
      rw [tl_append, tl_append, quo, txt]
      rfl
  | int i =>
    have h2 : 0 ≤ i ∧ i < 10 ^ 40 := by simpa [gd] using hg
    refine q_when (T := fun b => b = false) (t_tru (e_isi (C := ⟨K, noF, noJ, H, false, [], E, noZ⟩) (tc := tC .non) (e_var rfl) rfl (b := false) (by decide +kernel)) rfl) (fun h => by cases h) (fun _ => ?_)
    refine b_ret ((e_cb1 (C := ⟨K, noF, noJ, H, false, [], E, noZ⟩) (a_cons (e_var rfl) a_nil) (c_str (log_lt h2.1 h2.2))).is ?_) rfl rfl
    refine congrArg (fun z => Kd.dat (PyData.str z)) (ext_tl ?_)
    exact num_str h2.1
/-! ### text_of -/
/-- what waits, top last in the list -/
inductive Wt : List PyData → List Nat → Nat → Prop where
  | nil : Wt [] [] 0
  | val {d : PyData} {r : List PyData} {t : List Nat} {m : Nat} : gd d = true → Wt r t m → Wt (r ++ [.tuple [.bool true, d]]) (txt d ++ t) (m + 2 * (txt d).length)
  | pc {z : Str} {r : List PyData} {t : List Nat} {m : Nat} : tl z ≠ [] → Wt r t m → Wt (r ++ [.tuple [.bool false, .str z]]) (tl z ++ t) (m + 1)
mutual
theorem txt_pos : ∀ d, 1 ≤ (txt d).length
  | .str _ => by rw [txt]; simp
  | .int i => by
    rw [txt]
    have := numL_ne i.toNat
    exact List.length_pos_iff.mpr this
  | .tuple _ => by rw [txt]; simp
  | .none => by rw [txt]; simp; all_goals nofun
  | .bool _ => by rw [txt]; simp; all_goals nofun
  | .list _ => by rw [txt]; simp; all_goals nofun
  | .dict _ => by rw [txt]; simp; all_goals nofun
end
theorem Wt.len {W : List PyData} {t : List Nat} {m : Nat} (h : Wt W t m) : W.length ≤ m := by
  induction h with
  | nil => exact Nat.le_refl _
  | @val d r t m _ _ ih =>
    have := txt_pos d
    rw [List.length_append, List.length_singleton]
    omega
  | pc _ _ ih =>
    rw [List.length_append, List.length_singleton]
    omega
theorem joinL0 : ∀ l : List (List Nat), joinL [] l = l.flatten
  | [] => rfl
  | [x] => by simp [joinL]
  | x :: y :: r => by
    have := joinL0 (y :: r)
    simp only [joinL, this]
    simp
theorem tl_join0 (zs : List Str) : tl (Txt.join ("" : Str) zs) = (zs.map tl).flatten := by
  rw [join_eq, tl_join, show tl ("" : Str) = [] from rfl, joinL0]
theorem gdAll_get : ∀ {ds : List PyData} {i : Nat} {d : PyData}, gdAll ds = true → ds[i]? = some d → gd d = true
  | x :: xs, 0, d, h, e => by
    simp at e
    subst e
    simp [gdAll] at h
    exact h.1
  | x :: xs, i + 1, d, h, e => by
    simp [gdAll] at h
    exact gdAll_get h.2 (by simpa using e)
theorem fl_snoc (pz : List Str) (z : Str) : ((pz ++ [z]).map tl).flatten = (pz.map tl).flatten ++ tl z := by simp
theorem com1 : tl ("," : Str) = [44] := by decide +kernel
theorem par1 : tl ("(" : Str) = [40] := by decide +kernel
theorem par2 : tl (")" : Str) = [41] := by decide +kernel
theorem sl_big : 1000000 ≤ sizeLine := by decide
theorem go_text_of (h : sp_text_of K vs H Q E) : t_text_of K { nx := fun _ H' => Q .non H', rt := Q } (L2.start ["value", "pieces", "waiting", "is_value", "one", "member"] vs) H := by
  refine sp_body ?_ h
  rintro H E ks S Z ⟨d, rfl, hg, hl, rfl, rfl⟩ n _
  change BS ⟨K, noF, noJ, H, false, [], E, noZ⟩ _ [.dat d, .un, .un, .un, .un, .un] _
  generalize hC : (⟨K, noF, noJ, H, false, [], E, noZ⟩ : Ct) = C
  have hK : C.K = K := by rw [← hC]
  rw [← hK]
  refine q_asgN (e_lst a_nil rfl) fun lp => ?_
  refine q_asgN (e_lst (a_cons (e_tup (a_cons e_bl (a_cons (e_var rfl) a_nil)) rfl) a_nil) rfl) fun lw => b_seq ?_
  refine b_while (T := fun ρ b => ∀ x W, ρ[2]? = some (.own x W) → b = !W.isEmpty) (fun m ρ => ∃ (pz : List Str) (W : List PyData) (t : List Nat) (x y z : Kd), ρ = [.dat d, .own lp (pz.map .str), .own lw W, x, y, z] ∧ Wt W t m ∧ (pz.map tl).flatten ++ t = txt d ∧ pz.length ≤ ((pz.map tl).flatten).length ∧ m ≤ 200000) (2 * (txt d).length) ?_ ?_ ?_ ?_
  · exact ⟨[], _, txt d, .un, .un, .un, rfl, by simpa using Wt.val hg Wt.nil, by simp, by simp, by omega⟩
  · rintro m _ ⟨pz, W, t, x, y, z, rfl, hw, ht, hp, hm⟩
    refine (t_tru (e_var rfl) rfl).imp ?_
    rintro b rfl x' W' e
    cases e
    rfl
  · rintro m _ ⟨pz, W, t, x, y, z, rfl, hw, ht, hp, hm⟩ hb
    have hb := hb _ _ rfl
    have hW : W = [] := by
      cases W with
      | nil => rfl
      | cons => cases hb
    subst hW
    have h0 : t = [] := by
      generalize hq : ([] : List PyData) = W at hw
      cases hw with
      | nil => rfl
      | val => simp at hq
      | pc => simp at hq
    subst h0
    rw [List.append_nil] at ht
    have hs : (pz.map (·.length)).sum = ((pz.map tl).flatten).length := by
      rw [List.length_flatten, List.map_map]
      congr 1
    refine b_ret ((e_join (zs := pz) e_str (e_var rfl) rfl ?_).is ?_) rfl rfl
    · rw [hs, ht, show (("" : Str)).length = 0 from rfl]
      omega
    · refine congrArg (fun z => Kd.dat (PyData.str z)) (ext_tl ?_)
      rw [tl_join0, ht]
  · rintro m _ ⟨pz, W, t, x, y, z, rfl, hw, ht, hp, hm⟩ hb
    have hb := hb _ _ rfl
    have hpz : pz.length ≤ 100000 := by
      have : ((pz.map tl).flatten ++ t).length = (txt d).length := by rw [ht]
      rw [List.length_append] at this
      omega
    have hpl : (pz.map PyData.str).length < sizeLine := by
      rw [List.length_map]
      have := sl_big
      omega
    cases hw with
    | nil => cases hb
    | @pc z1 r t1 m1 hz hw1 =>
      refine b_seq (b_pop2 (n := 3) (j := 4) (i := 2) (ds := r) (d := .bool false) (e := .str z1) (by decide) rfl (by decide) (by decide) ?_)
      refine b_if (T := fun b => b = true) (t_not (a := false) (t_tru (e_var rfl) rfl)) (fun _ => ?_) (fun h => by cases h)
      refine b_app rfl (e_var rfl) hpl ⟨m1, by omega, pz ++ [z1], r, t1, .dat (.bool false), .dat (.str z1), z, ?_, hw1, ?_, ?_, by omega⟩
      · rw [List.map_append]
        rfl
      · rw [← ht, fl_snoc, List.append_assoc]
      · have : 1 ≤ (tl z1).length := List.length_pos_iff.mpr hz
        rw [fl_snoc, List.length_append, List.length_append, List.length_singleton]
        omega
    | @val d1 r t1 m1 hg1 hw1 =>
      refine b_seq (b_pop2 (n := 3) (j := 4) (i := 2) (ds := r) (d := .bool true) (e := d1) (by decide) rfl (by decide) (by decide) ?_)
      refine b_if (T := fun b => b = false) (t_not (a := true) (t_tru (e_var rfl) rfl)) (fun h => by cases h) (fun _ => ?_)
      have h1 : (txt d1).length ≤ 100000 := by
        have : ((pz.map tl).flatten ++ (txt d1 ++ t1)).length = (txt d).length := by rw [ht]
        rw [List.length_append, List.length_append] at this
        omega
      have hpos := txt_pos d1
      have push : ∀ (nx : List Kd → Prop), (nx [.dat d, .own lp ((pz ++ [(⟨(txt d1).toArray⟩ : Str)]).map .str), .own lw r, .dat (.bool true), .dat d1, z]) → isTup d1 = false → BS C (tDrop (tBM C.K "list" rAppend (tVar 1) (tCons (tCall (sp_atom_text C.K) [] E0 (tCons (tVar 4) tNil)) tNil))) [.dat d, .own lp (pz.map .str), .own lw r, .dat (.bool true), .dat d1, z] { nx := nx } := by
        intro nx hnx hi
        rw [List.map_append] at hnx
        exact b_app (C := C) (i := 1) (l := lp) (ds := pz.map .str) (d := .str ⟨(txt d1).toArray⟩) rfl (e_callP (A := A_atxt) (ks := [.dat d1]) (ks' := [.dat d1]) (a_cons (e_var rfl) a_nil) (.cons (.dat fun h => by cases h) .nil) ⟨d1, rfl, hg1, hi, h1, rfl, rfl⟩ fun k h => h) hpl hnx
      have atom : isTup d1 = false → ∀ P : Po, P.nx = (fun r => ∃ m', m' < m1 + 2 * (txt d1).length ∧ ∃ (pz : List Str) (W : List PyData) (t : List Nat) (x y z : Kd), r = [.dat d, .own lp (pz.map .str), .own lw W, x, y, z] ∧ Wt W t m' ∧ (pz.map tl).flatten ++ t = txt d ∧ pz.length ≤ ((pz.map tl).flatten).length ∧ m' ≤ 200000) → BS C (tDrop (tBM C.K "list" rAppend (tVar 1) (tCons (tCall (sp_atom_text C.K) [] E0 (tCons (tVar 4) tNil)) tNil))) [.dat d, .own lp (pz.map .str), .own lw r, .dat (.bool true), .dat d1, z] P := by
        intro hi P hP
        refine (push P.nx ?_ hi).imp (fun _ h => h) (fun _ h => h.elim) (fun _ h => h.elim) (fun _ h => h.elim)
        rw [hP]
        refine ⟨m1, by omega, pz ++ [⟨(txt d1).toArray⟩], r, t1, _, _, z, rfl, hw1, ?_, ?_, by omega⟩
        · rw [← ht, fl_snoc, List.append_assoc]
        · rw [fl_snoc, List.length_append, List.length_append, List.length_singleton]
          show _ ≤ _ + (txt d1).length
          omega
      cases d1 with
      | none => exact b_if (T := fun b => b = false) (t_tru (e_isi (tc := tC .non) (e_var rfl) rfl (b := false) (by decide +kernel)) rfl) (fun h => by cases h) (fun _ => atom rfl _ rfl)
      | str x1 => exact b_if (T := fun b => b = false) (t_tru (e_isi (tc := tC .non) (e_var rfl) rfl (b := false) (by decide +kernel)) rfl) (fun h => by cases h) (fun _ => atom rfl _ rfl)
      | int x1 => exact b_if (T := fun b => b = false) (t_tru (e_isi (tc := tC .non) (e_var rfl) rfl (b := false) (by decide +kernel)) rfl) (fun h => by cases h) (fun _ => atom rfl _ rfl)
      | bool b => cases hg1
      | list xs => cases hg1
      | dict xs => cases hg1
      | tuple xs =>
        refine b_if (T := fun b => b = true) (t_tru (e_isi (tc := tC .non) (e_var rfl) rfl (b := true) (by decide +kernel)) rfl) (fun _ => ?_) (fun h => by cases h)
        have hgx : gdAll xs = true := hg1
        have hrl := hw1.len
        have htx : (txt (.tuple xs)).length = (txtAll xs).length + 2 := by rw [txt]; simp
        refine q_app (d := .str "(") rfl e_str hpl ?_
        refine q_app (d := .tuple [.bool false, .str ")"]) rfl (e_tup (a_cons e_bl (a_cons e_str a_nil)) rfl) (by have := sl_big; omega) ?_
        refine b_forRev (C := C) (ds := xs) (e_var rfl) (fun k ρ => ∃ (W : List PyData) (m : Nat) (zz : Kd), ρ = [.dat d, .own lp (pz.map .str ++ [.str "("]), .own lw W, .dat (.bool true), .dat (.tuple xs), zz] ∧ Wt W (txtAll (xs.drop (xs.length - k)) ++ (41 :: t1)) m ∧ m = m1 + 1 + 2 * (txtAll (xs.drop (xs.length - k))).length - k ∧ k ≤ (txtAll (xs.drop (xs.length - k))).length) ?_ ?_ ?_
        · refine ⟨_, m1 + 1, z, rfl, ?_, ?_, by omega⟩
          · have := Wt.pc (z := ")") (by rw [par2]; simp) hw1
            rw [par2] at this
            simpa [txtAll] using this
          · simp [txtAll]
        · rintro v d' k a _ hk ha ⟨W, m, zz, rfl, hw, hm2, hk2⟩
          have hda : xs.drop (xs.length - (k + 1)) = a :: xs.drop (xs.length - k) := by
            have e1 : xs.length - (k + 1) = xs.length - 1 - k := by omega
            have e2 : xs.length - k = xs.length - 1 - k + 1 := by omega
            rw [e1, e2, List.drop_eq_getElem_cons (by omega)]
            congr 1
            exact (List.getElem?_eq_some_iff.mp ha).2
          have hsub : (txtAll (xs.drop (xs.length - k))).length ≤ 100000 := by
            have e := txtAll_app (xs.take (xs.length - k)) (xs.drop (xs.length - k))
            rw [List.take_append_drop] at e
            have e2 := congrArg List.length e
            rw [List.length_append] at e2
            omega
          have hwl := hw.len
          refine q_app (d := .tuple [.bool false, .str ","]) rfl (e_tup (a_cons e_bl (a_cons e_str a_nil)) rfl) (by have := sl_big; omega) ?_
          refine b_app (d := .tuple [.bool true, a]) rfl (e_tup (a_cons e_bl (a_cons (e_var rfl) a_nil)) rfl) (by have := sl_big; rw [List.length_append, List.length_singleton]; omega) ?_
          refine ⟨_, m + 1 + 2 * (txt a).length, _, rfl, ?_, ?_⟩
          · have w1 := Wt.pc (z := ",") (by rw [com1]; simp) hw
            have w2 := Wt.val (gdAll_get hgx ha) w1
            rw [com1] at w2
            rw [hda, txtAll]
            simpa using w2
          · rw [hda, txtAll, List.length_append, List.length_cons]
            have := txt_pos a
            constructor <;> omega
        · rintro _ ⟨W, m, zz, rfl, hw, hm2, hk2⟩
          rw [Nat.sub_self, List.drop_zero] at hw hm2 hk2
          refine ⟨m, by omega, pz ++ [("(" : Str)], W, txtAll xs ++ (41 :: t1), .dat (.bool true), .dat (.tuple xs), zz, ?_, hw, ?_, ?_, by omega⟩
          · rw [List.map_append]
            rfl
          · rw [← ht, fl_snoc, par1, txt]
            simp
          · rw [fl_snoc, List.length_append, List.length_append, List.length_singleton, par1]
            show _ ≤ _ + 1
            omega
theorem go_told (h : sp_told K vs H Q E) : t_told K { nx := fun _ H' => Q .non H', rt := Q } (L2.start ["value"] vs) H := by
  refine sp_body ?_ h
  rintro H E ks S Z ⟨d, rfl, hg, hl, rfl, rfl⟩ n _
  change BS ⟨K, noF, noJ, H, false, [], E, noZ⟩ _ [.dat d] _
  exact b_ret (e_callP (C := ⟨K, noF, noJ, H, false, [], E, noZ⟩) (ks' := [.dat d]) (a_cons (e_var rfl) a_nil) (.cons (.dat fun h => by cases h) .nil) ⟨d, rfl, hg, hl, rfl, rfl⟩ fun k h => h) rfl rfl
end
end Mh
namespace Mh
open PySem PySem.Spec PyProof.Rows L2 TL
/-! ### value_of, of a text that reads -/
def A_strat : At := fun ks S Z => ∃ (z : Str) (p : Nat) (w r : List Nat), ks = [.dat (.str z), .dat (.int p)] ∧ (tl z).drop p = w ++ 34 :: r ∧ w.all ltr = true ∧ z.length ≤ sizeLine ∧ S = (fun k => k = .dat (.tuple [.str ⟨w.toArray⟩, .int ((p + w.length + 1 : Nat) : Int)])) ∧ Z = noZ
def sp_string_at (K : PySem.W.Frag) : Sp := SpP K A_strat
def A_numat : At := fun ks S Z => ∃ (z : Str) (p n : Nat) (r : List Nat), ks = [.dat (.str z), .dat (.int p)] ∧ (tl z).drop p = numL n ++ r ∧ n < 10 ^ 40 ∧ (∀ c, r.head? = some c → fig c = false) ∧ z.length ≤ sizeLine ∧ S = (fun k => k = .dat (.tuple [.int n, .int ((p + (numL n).length : Nat) : Int)])) ∧ Z = noZ
def sp_number_at (K : PySem.W.Frag) : Sp := SpP K A_numat
def A_atomat : At := fun ks S Z => ∃ (z : Str) (p : Nat) (v : PyData) (r : List Nat), ks = [.dat (.str z), .dat (.int p)] ∧ Atm ((tl z).drop p) v r ∧ z.length ≤ sizeLine ∧ S = (fun k => k = .dat (.tuple [v, .int ((z.length - r.length : Nat) : Int)])) ∧ Z = noZ
def sp_atom_at (K : PySem.W.Frag) : Sp := SpP K A_atomat
def A_val : At := fun ks S Z => ∃ (z : Str) (d : PyData), ks = [.dat (.str z)] ∧ Par [] (tl z) d ∧ z.length < sizeLine ∧ S = (fun k => k = .dat d) ∧ Z = noZ
def sp_value_of (K : PySem.W.Frag) : Sp := SpP K A_val
def sp_untold (K : PySem.W.Frag) : Sp := SpP K A_val
def t_string_at (K : PySem.W.Frag) : TS := (tSeq (tAsg (tVar 1) (gName 2))
  (tSeq (tWhile (tTru K (tCall (sp_is_letter K) [] E0 (tCons (tSl (rSlP K) (tVar 0) (tPart (tVar 2)) (tPart (tOp (rAddP K) (tVar 2) (tC (.int 1))))) tNil))) (tAug 2 (tC (.int 1)) (ipI fun i j => i + j)))
  (tSeq (tIfS (tTest (tOp (rNeP K) (tSl (rSlP K) (tVar 0) (tPart (tVar 2)) (tPart (tOp (rAddP K) (tVar 2) (tC (.int 1))))) (tC (.str "\"")))) tNever tNext)
  (tRet (tTup (tCons (tSl (rSlP K) (tVar 0) (tPart (tVar 1)) (tPart (tVar 2))) (tCons (tOp (rAddP K) (tVar 2) (tC (.int 1))) tNil)))))))
def t_number_at (K : PySem.W.Frag) : TS := (tSeq (tAsg (tCall (sp_figures_end K) [] E0 (tCons (tVar 0) (tCons (tVar 1) tNil))) (gName 2))
  (tSeq (tAsg (tCall (sp_number_of K) [] E0 (tCons (tSl (rSlP K) (tVar 0) (tPart (tVar 1)) (tPart (tVar 2))) (tCons (tC (.int 40)) tNil))) (gName 3))
  (tSeq (tIfS (tTest (tOp rIsN (tVar 3) (tC .non))) tNever tNext)
  (tRet (tTup (tCons (tVar 3) (tCons (tVar 2) tNil)))))))
def t_atom_at (K : PySem.W.Frag) : TS := (tSeq (tAsg (tSl (rSlP K) (tVar 0) (tPart (tVar 1)) (tPart (tOp (rAddP K) (tVar 1) (tC (.int 1))))) (gName 2))
  (tSeq (tIfS (tTest (tOp (rEqP K) (tVar 2) (tC (.str "-")))) (tRet (tTup (tCons (tC .non) (tCons (tOp (rAddP K) (tVar 1) (tC (.int 1))) tNil)))) tNext)
  (tSeq (tIfS (tTest (tOp (rEqP K) (tVar 2) (tC (.str "\"")))) (tRet (tCall (sp_string_at K) [] E0 (tCons (tVar 0) (tCons (tOp (rAddP K) (tVar 1) (tC (.int 1))) tNil)))) tNext)
  (tSeq (tIfS (tTru K (tCall (sp_is_figure K) [] E0 (tCons (tVar 2) tNil))) (tRet (tCall (sp_number_at K) [] E0 (tCons (tVar 0) (tCons (tVar 1) tNil)))) tNext)
  tNever))))
def t_value_of (K : PySem.W.Frag) : TS := (tSeq (tAsg (tLst tNil) (gName 1))
  (tSeq (tAsg (tC (.int 0)) (gName 2))
  (tSeq (tWhile (tB (tC (.bl true))) (tSeq (tAsg (tSl (rSlP K) (tVar 0) (tPart (tVar 2)) (tPart (tOp (rAddP K) (tVar 2) (tC (.int 1))))) (gName 3))
  (tSeq (tIfS (tTest (tOp (rEqP K) (tVar 3) (tC (.str "(")))) (tSeq (tIfS (tTest (tOp (rEqP K) (tCB (rLenP K) (tCons (tVar 1) tNil)) (tC (.int 60)))) tNever tNext)
  (tSeq (tDrop (tBM K "list" rAppend (tVar 1) (tCons (tLst tNil) tNil)))
  (tSeq (tAug 2 (tC (.int 1)) (ipI fun i j => i + j))
  tCont))) tNext)
  (tSeq (tIfS (tAnd (tTest (tOp (rEqP K) (tVar 3) (tC (.str ")")))) (tTru K (tVar 1))) (tSeq (tAsg (tCB (rTupP K) (tCons (tBM0 K "list" rPop (tVar 1)) tNil)) (gName 4))
  (tAug 2 (tC (.int 1)) (ipI fun i j => i + j))) (tAsg (tCall (sp_atom_at K) [] E0 (tCons (tVar 0) (tCons (tVar 2) tNil))) (gTup K 2 (gCons (gName 4) (gCons (gName 2) gNil)))))
  (tSeq (tIfS (tNot (tTru K (tVar 1))) tBreak tNext)
  (tSeq (tIfS (tTest (tOp (rNeP K) (tSl (rSlP K) (tVar 0) (tPart (tVar 2)) (tPart (tOp (rAddP K) (tVar 2) (tC (.int 1))))) (tC (.str ",")))) tNever tNext)
  (tSeq (tDrop (tBM K "list" rAppend (tOp (rIx K) (tVar 1) (tUn rNegI (tC (.int 1)))) (tCons (tVar 4) tNil)))
  (tAug 2 (tC (.int 1)) (ipI fun i j => i + j)))))))))
  (tSeq (tIfS (tTest (tOp (rNeP K) (tVar 2) (tCB (rLenP K) (tCons (tVar 0) tNil)))) tNever tNext)
  (tRet (tVar 4))))))
def t_untold (K : PySem.W.Frag) : TS := (tRet (tCall (sp_value_of K) [] E0 (tCons (tVar 0) tNil)))
theorem tw_stop {p : Nat → Bool} : ∀ {w : List Nat} {c : Nat} {r : List Nat}, w.all p = true → p c = false → (w ++ c :: r).takeWhile p = w
  | [], c, r, _, h => by simp [List.takeWhile_cons, h]
  | a :: w, c, r, h, h2 => by
    simp at h
    simp [List.takeWhile_cons, h.1]
    exact tw_stop (by simpa using h.2) h2
theorem tw_stop2 {p : Nat → Bool} {w r : List Nat} (h : w.all p = true) (h2 : ∀ c, r.head? = some c → p c = false) : (w ++ r).takeWhile p = w := by
  cases r with
  | nil =>
    rw [List.append_nil]
    have := tw_all (p := p) w
    rw [h] at this
    have e := of_decide_eq_true this
    have q := take_tw (p := p) w
    rw [e, List.take_length] at q
    exact q.symm
  | cons c r => exact tw_stop h (h2 c rfl)
theorem sgeq (o : Option Nat) {x : Str} {d : Nat} (hx : tl x = [d]) : decide (sg o = x) = decide (o = some d) := by
  refine decide_eq_decide.mpr ⟨fun h => ?_, fun h => ?_⟩
  · rw [← h] at hx
    cases o with
    | none => cases hx
    | some c =>
      have : [c] = [d] := hx
      simp at this
      rw [this]
  · subst h
    exact ext_tl hx.symm
theorem minus : tl ("-" : Str) = [45] := by decide +kernel
theorem at_of_drop {z : Str} {p c : Nat} {r : List Nat} (h : (tl z).drop p = c :: r) : (tl z)[p]? = some c ∧ p < z.length ∧ (tl z).drop (p + 1) = r := by
  have hl : p < (tl z).length := by
    refine Nat.lt_of_not_le fun hn => ?_
    rw [List.drop_eq_nil_of_le hn] at h
    cases h
  have e := List.drop_eq_getElem_cons hl
  rw [h] at e
  injection e with e1 e2
  exact ⟨by rw [List.getElem?_eq_getElem hl, e1], by rw [len_tl]; exact hl, e2.symm⟩
theorem len_drop {z : Str} {p : Nat} {w r : List Nat} (h : (tl z).drop p = w ++ r) (hp : p ≤ z.length) : p + w.length + r.length = z.length := by
  have := congrArg List.length h
  rw [List.length_drop, List.length_append, ← len_tl] at this
  omega
theorem le_of_drop {z : Str} {p c : Nat} {w r : List Nat} (h : (tl z).drop p = w ++ c :: r) : p ≤ z.length := by
  refine Nat.le_of_not_le fun hn => ?_
  rw [List.drop_eq_nil_of_le (by rw [← len_tl]; exact hn)] at h
  simp at h
theorem numL_head : ∀ n : Nat, arf (numL n) = true := by
  intro n
  have all : (numL n).all fig = true := List.all_eq_true.mpr fun c hc => by
    have := numL_digits n c hc
    simp [fig]
    exact this
  have hd : n = 0 ∨ ∃ c r, numL n = c :: r ∧ c ≠ 48 := by
    induction n using Nat.strongRecOn with
    | _ n ih =>
      by_cases h : n < 10
      · rw [numL_lt h]
        by_cases h0 : n = 0
        · exact .inl h0
        · exact .inr ⟨48 + n, [], rfl, by omega⟩
      · rcases ih (n / 10) (by omega) (List.all_eq_true.mpr fun c hc => by
          have := numL_digits (n / 10) c hc
          simp [fig]
          exact this) with h0 | ⟨c, r, e, hc⟩
        · omega
        · refine .inr ⟨c, r ++ [48 + n % 10], ?_, hc⟩
          rw [numL_step (by omega), e]
          rfl
  unfold arf
  rw [all, Bool.true_and]
  rcases hd with rfl | ⟨c, r, e, hc⟩
  · rw [numL_lt (by decide)]
    rfl
  · rw [e]
    simp [hc]
section
variable {K : PySem.W.Frag} {vs : List V} {H : Hp} {Q : VK} {E : XK}
theorem go_string_at (h : sp_string_at K vs H Q E) : t_string_at K { nx := fun _ H' => Q .non H', rt := Q } (L2.start ["text", "at", "end"] vs) H := by
  refine sp_body ?_ h
  rintro H E ks S Z ⟨z, p, w, r, rfl, hd, hw, hz, rfl, rfl⟩ n _
  change BS ⟨K, noF, noJ, H, false, [], E, noZ⟩ _ [.dat (.str z), .dat (.int p), .un] _
  have hp := le_of_drop hd
  have hlen := len_drop hd hp
  rw [List.length_cons] at hlen
  have htw : tw ltr z p = w := by
    unfold tw
    rw [hd]
    exact tw_stop hw rfl
  have hd2 : (tl z).drop (p + w.length) = 34 :: r := by
    rw [← List.drop_drop, hd, List.drop_left]
  obtain ⟨h1, h2, h3⟩ := at_of_drop hd2
  refine b_signs (C := ⟨K, noF, noJ, H, false, [], E, noZ⟩) rfl hz hp ?_
  rw [htw]
  refine q_when (T := fun b => b = false) (t_test ((e_op1 (C := ⟨K, noF, noJ, H, false, [], E, noZ⟩) (e_sign (p := p + w.length) rfl rfl hz) e_str k_ne_s).is (by rw [sgeq _ quo, h1]; rfl))) (fun h => by cases h) (fun _ => ?_)
  refine b_ret ((e_tup (C := ⟨K, noF, noJ, H, false, [], E, noZ⟩) (a_cons (e_slS (C := ⟨K, noF, noJ, H, false, [], E, noZ⟩) (e_var rfl) (o_some (e_var rfl)) (o_some (e_var rfl)) hz) (a_cons (e_op1 (C := ⟨K, noF, noJ, H, false, [], E, noZ⟩) (e_var rfl) e_int k_add_i) a_nil)) rfl).is ?_) rfl rfl
  rw [cut_sub (Nat.le_add_right _ _) (by omega), hd, Nat.add_sub_cancel_left, List.take_left]
  rfl
theorem go_number_at (h : sp_number_at K vs H Q E) : t_number_at K { nx := fun _ H' => Q .non H', rt := Q } (L2.start ["text", "at", "end", "number"] vs) H := by
  refine sp_body ?_ h
  rintro H E ks S Z ⟨z, p, m, r, rfl, hd, hm, hr, hz, rfl, rfl⟩ n _
  change BS ⟨K, noF, noJ, H, false, [], E, noZ⟩ _ [.dat (.str z), .dat (.int p), .un, .un] _
  obtain ⟨c, cs, hc⟩ := List.exists_cons_of_ne_nil (numL_ne m)
  have hp : p ≤ z.length := by
    refine Nat.le_of_not_le fun hn => ?_
    rw [List.drop_eq_nil_of_le (by rw [← len_tl]; exact hn), hc] at hd
    cases hd
  have hlen := len_drop hd hp
  have hfa : (numL m).all fig = true := List.all_eq_true.mpr fun c hc => by
    have := numL_digits m c hc
    simp [fig]
    exact this
  have htw : tw fig z p = numL m := by
    unfold tw
    rw [hd]
    exact tw_stop2 hfa hr
  refine q_asg (C := ⟨K, noF, noJ, H, false, [], E, noZ⟩) (e_callP (C := ⟨K, noF, noJ, H, false, [], E, noZ⟩) (ks' := [.dat (.str z), .dat (.int p)]) (a_cons (e_var rfl) (a_cons (e_var rfl) a_nil)) (.cons (.dat fun h => by cases h) (.cons (.dat fun h => by cases h) .nil)) ⟨z, p, rfl, hp, hz, rfl, rfl⟩ fun k h => h) ?_
  rw [htw]
  have cut : cutS z (some (p : Int)) (some ((p + (numL m).length : Nat) : Int)) = ⟨(numL m).toArray⟩ := by
    rw [cut_sub (Nat.le_add_right _ _) (by omega), hd, Nat.add_sub_cancel_left, List.take_left]
  have hcl : (⟨(numL m).toArray⟩ : Str).length = (numL m).length := by rw [len_tl]
  have hnl : (numL m).length ≤ 40 := numL_len (by decide) hm
  have nv : numV ⟨(numL m).toArray⟩ 40 = .int m := by
    unfold numV
    rw [hcl, decide_eq_false (by omega)]
    show (if (false || !arf (numL m)) then PyData.none else .int ((NumText.digitsVal (numL m) : Nat) : Int)) = _
    rw [numL_head, numL_val]
    rfl
  have e2 : E1 ⟨K, noF, noJ, H, false, [], E, noZ⟩ (tCall (sp_number_of K) [] E0 (tCons (tSl (rSlP K) (tVar 0) (tPart (tVar 1)) (tPart (tVar 2))) (tCons (tC (.int 40)) tNil))) [.dat (.str z), .dat (.int p), .dat (.int ((p + (numL m).length : Nat) : Int)), .un] (.dat (.int m)) := by
    have e1 := e_slS (C := ⟨K, noF, noJ, H, false, [], E, noZ⟩) (ρ := [.dat (.str z), .dat (.int p), .dat (.int ((p + (numL m).length : Nat) : Int)), .un]) (z := z) (e_var (i := 0) rfl) (o_some (i := p) (e_var (i := 1) rfl)) (o_some (i := ((p + (numL m).length : Nat) : Int)) (e_var (i := 2) rfl)) hz
    rw [cut] at e1
    refine (e_callP (C := ⟨K, noF, noJ, H, false, [], E, noZ⟩) (S := fun k => k = .dat (numV ⟨(numL m).toArray⟩ 40)) (ks' := [.dat (.str ⟨(numL m).toArray⟩), .dat (.int 40)]) (a_cons e1 (a_cons e_int a_nil)) (.cons (.dat fun h => by cases h) (.cons (.dat fun h => by cases h) .nil)) ⟨_, 40, rfl, ?_, by decide, rfl, rfl⟩ fun k h => h).imp ?_
    · intro k hk
      rw [hk, nv]
    · rw [hcl]
      exact Nat.le_trans hnl (by decide)
  refine q_asg e2 ?_
  refine q_when (T := fun b => b = false) (t_test (e_op1 (C := ⟨K, noF, noJ, H, false, [], E, noZ⟩) (e_var rfl) e_non k_isN)) (fun h => by cases h) (fun _ => ?_)
  exact b_ret (e_tup (C := ⟨K, noF, noJ, H, false, [], E, noZ⟩) (a_cons (e_var rfl) (a_cons (e_var rfl) a_nil)) rfl) rfl rfl
theorem atm_nl {cs r : List Nat} {v : PyData} (h : Atm cs v r) : nl v = true := by cases h <;> rfl
theorem go_atom_at (h : sp_atom_at K vs H Q E) : t_atom_at K { nx := fun _ H' => Q .non H', rt := Q } (L2.start ["text", "at", "sign"] vs) H := by
  refine sp_body ?_ h
  rintro H E ks S Z ⟨z, p, v, r, rfl, ha, hz, rfl, rfl⟩ n _
  change BS ⟨K, noF, noJ, H, false, [], E, noZ⟩ _ [.dat (.str z), .dat (.int p), .un] _
  refine q_asg (e_sign (C := ⟨K, noF, noJ, H, false, [], E, noZ⟩) (p := p) rfl rfl hz) ?_
  have tq : ∀ (x : Str) (d : Nat), tl x = [d] → T1 ⟨K, noF, noJ, H, false, [], E, noZ⟩ (tTest (tOp (rEqP K) (tVar 2) (tC (.str x)))) [.dat (.str z), .dat (.int p), .dat (.str (sg (tl z)[p]?))] (decide ((tl z)[p]? = some d)) := fun x d hx =>
    t_test ((e_op1 (C := ⟨K, noF, noJ, H, false, [], E, noZ⟩) (e_var rfl) e_str k_eq_s).is (by rw [sgeq _ hx]))
  generalize hcs : (tl z).drop p = cs at ha
  cases ha with
  | non =>
    obtain ⟨h1, h2, h3⟩ := at_of_drop hcs
    refine q_when (T := fun b => b = true) ((tq "-" 45 minus).is (by rw [h1]; rfl)) (fun _ => ?_) (fun h => by cases h)
    have hlen := len_drop (w := [45]) (r := r) hcs (by omega)
    simp at hlen
    refine b_ret ((e_tup (C := ⟨K, noF, noJ, H, false, [], E, noZ⟩) (a_cons e_non (a_cons (e_op1 (C := ⟨K, noF, noJ, H, false, [], E, noZ⟩) (e_var rfl) e_int k_add_i) a_nil)) rfl).is ?_) rfl rfl
    rw [show ((z.length - r.length : Nat) : Int) = (p : Int) + 1 by omega]
  | @str w _ hw =>
    obtain ⟨h1, h2, h3⟩ := at_of_drop hcs
    refine q_when (T := fun b => b = false) ((tq "-" 45 minus).is (by rw [h1]; rfl)) (fun h => by cases h) (fun _ => ?_)
    refine q_when (T := fun b => b = true) ((tq "\"" 34 quo).is (by rw [h1]; rfl)) (fun _ => ?_) (fun h => by cases h)
    have hlen := len_drop (w := 34 :: w ++ [34]) (r := r) (by rw [hcs]; simp) (by omega)
    simp at hlen
    refine b_ret ((e_callP (C := ⟨K, noF, noJ, H, false, [], E, noZ⟩) (ks' := [.dat (.str z), .dat (.int ((p + 1 : Nat) : Int))]) (S := fun k => k = .dat (.tuple [.str ⟨w.toArray⟩, .int ((p + 1 + w.length + 1 : Nat) : Int)])) (a_cons (e_var rfl) (a_cons (e_op1 (C := ⟨K, noF, noJ, H, false, [], E, noZ⟩) (e_var rfl) e_int k_add_i) a_nil)) (.cons (.dat fun h => by cases h) (.cons (.dat fun h => by cases h) .nil)) ⟨z, p + 1, w, r, rfl, h3, hw, hz, rfl, rfl⟩ fun k h => h).imp fun k hk => ?_) rfl rfl
    rw [hk, show p + 1 + w.length + 1 = z.length - r.length by omega]
  | @num m _ hm hr =>
    obtain ⟨c, cs, hc⟩ := List.exists_cons_of_ne_nil (numL_ne m)
    rw [hc] at hcs
    obtain ⟨h1, h2, h3⟩ := at_of_drop hcs
    have hfc : fig c = true := by
      have := numL_digits m c (by rw [hc]; exact List.mem_cons_self)
      simp [fig]
      exact this
    have hf := hfc
    simp [fig] at hf
    refine q_when (T := fun b => b = false) ((tq "-" 45 minus).is (by rw [h1]; exact decide_eq_false (by simp; omega))) (fun h => by cases h) (fun _ => ?_)
    refine q_when (T := fun b => b = false) ((tq "\"" 34 quo).is (by rw [h1]; exact decide_eq_false (by simp; omega))) (fun h => by cases h) (fun _ => ?_)
    refine q_when (T := fun b => b = true) (t_tru (C := ⟨K, noF, noJ, H, false, [], E, noZ⟩) (k := .dat (.bool (((tl z)[p]?).any fig))) (e_callP (C := ⟨K, noF, noJ, H, false, [], E, noZ⟩) (ks' := [.dat (.str (sg (tl z)[p]?))]) (a_cons (e_var rfl) a_nil) (.cons (.dat fun h => by cases h) .nil) ⟨_, rfl, rfl, rfl⟩ fun k h => h) (by rw [h1]; exact congrArg some hfc)) (fun _ => ?_) (fun h => by cases h)
    rw [← hc] at hcs
    have hlen := len_drop hcs (by omega)
    refine b_ret ((e_callP (C := ⟨K, noF, noJ, H, false, [], E, noZ⟩) (ks' := [.dat (.str z), .dat (.int p)]) (S := fun k => k = .dat (.tuple [.int m, .int ((p + (numL m).length : Nat) : Int)])) (a_cons (e_var rfl) (a_cons (e_var rfl) a_nil)) (.cons (.dat fun h => by cases h) (.cons (.dat fun h => by cases h) .nil)) ⟨z, p, m, r, rfl, hcs, hm, hr, hz, rfl, rfl⟩ fun k h => h).imp fun k hk => ?_) rfl rfl
    rw [hk, show p + (numL m).length = z.length - r.length by omega]
theorem nlAll_app (xs ys : List PyData) : nl.nlAll (xs ++ ys) = (nl.nlAll xs && nl.nlAll ys) := by
  induction xs with
  | nil => rfl
  | cons x xs ih => simp [nl.nlAll, ih, Bool.and_assoc]
theorem hn1 {d : PyData} (h : nl d = true) : nl.nlAll [d] = true := by simpa [nl.nlAll] using h
theorem atm_suf {cs r : List Nat} {v : PyData} (h : Atm cs v r) : ∃ c w, cs = c :: w ++ r ∧ c ≠ 40 ∧ c ≠ 41 := by
  cases h with
  | non => exact ⟨45, [], rfl, by decide, by decide⟩
  | @str w _ _ => exact ⟨34, w ++ [34], by simp, by decide, by decide⟩
  | @num n _ _ _ =>
    obtain ⟨c, w, e⟩ := List.exists_cons_of_ne_nil (numL_ne n)
    have := numL_digits n c (by rw [e]; exact List.mem_cons_self)
    exact ⟨c, w, by rw [e], by omega, by omega⟩
/-! ### the loop of value_of, by hand: rows is a list of lists -/
inductive Rows (K : PySem.W.Frag) (H : Hp) : List Addr → List (List PyData) → Prop where
  | nil : Rows K H [] []
  | cons {l : Addr} {vs : List V} {ds : List PyData} {ls : List Addr} {st : List (List PyData)} : H l = some (.lst vs) → DpAll K H vs ds → nl.nlAll ds = true → Rows K H ls st → Rows K H (l :: ls) (ds :: st)
theorem Rows.mv {H H' : Hp} {ls : List Addr} {st : List (List PyData)} (h : Rows K H ls st) : (∀ l ∈ ls, H' l = H l) → L2.Tx H H' → Rows K H' ls st := by
  induction h with
  | nil => exact fun _ _ => .nil
  | cons h1 h2 h3 _ ih => exact fun e t => .cons ((e _ List.mem_cons_self).trans h1) (DpAll.tx t h3 h2) h3 (ih (fun l hl => e l (List.mem_cons_of_mem _ hl)) t)
theorem Rows.lst {H : Hp} {ls : List Addr} {st : List (List PyData)} (h : Rows K H ls st) : ∀ l ∈ ls, ∃ vs, H l = some (.lst vs) := by
  induction h with
  | nil => intro l hl; cases hl
  | cons h1 _ _ _ ih =>
    intro l hl
    rcases List.mem_cons.mp hl with e | hl
    · exact ⟨_, e ▸ h1⟩
    · exact ih l hl
structure Stk (K : PySem.W.Frag) (H0 : Hp) (r : Addr) (ls : List Addr) (st : List (List PyData)) (H : Hp) : Prop where
  top : H r = some (.lst (ls.reverse.map V.ref))
  nd : (r :: ls).Nodup
  fr : ∀ a ∈ r :: ls, H0 a = none
  old : ∀ a o, H0 a = some o → H a = some o
  rows : Rows K H ls st
theorem Stk.len {H0 H : Hp} {r : Addr} {ls : List Addr} {st : List (List PyData)} (h : Stk K H0 r ls st H) : ls.length = st.length := by
  have h1 := h.rows
  clear h
  induction h1 with
  | nil => rfl
  | cons _ _ _ _ ih => simp [ih]
theorem tx_upd_new {H : Hp} {p : Addr} {o : HO} (hp : H p = none) : L2.Tx H (upd H p o) := fun a xs h => by
  rcases h with h | ⟨ob, h⟩
  · exact .inl (by rw [upd_ne (ne_of_none h hp)]; exact h)
  · exact .inr ⟨ob, by rw [upd_ne (ne_of_none h hp)]; exact h⟩
theorem tx_upd_lst {H : Hp} {p : Addr} {o : HO} {vs : List V} (hp : H p = some (.lst vs)) : L2.Tx H (upd H p o) := fun a xs h => by
  have na : a ≠ p := fun e => by
    subst e
    rcases h with h | ⟨ob, h⟩ <;> rw [hp] at h <;> cases h
  rcases h with h | ⟨ob, h⟩
  · exact .inl (by rw [upd_ne na]; exact h)
  · exact .inr ⟨ob, by rw [upd_ne na]; exact h⟩
/-- rows as a world that stands still -/
abbrev CtS (K : PySem.W.Frag) (r : Addr) (ls : List Addr) (H : Hp) : Ct := ⟨K, fun a => a ∈ r :: ls, fun H' => ∀ a ∈ r :: ls, H' a = H a, H, false, [], fun _ _ _ => False, noZ⟩
theorem Stk.ok {H0 H : Hp} {r : Addr} {ls : List Addr} {st : List (List PyData)} (h : Stk K H0 r ls st H) : (CtS K r ls H).Ok where
  st := fun H1 H2 j e a ha => (e a ha).trans (j a ha)
  ls := fun H1 a j ha => by
    rw [j a ha]
    rcases List.mem_cons.mp ha with e | ha
    · exact ⟨_, e ▸ h.top⟩
    · exact h.rows.lst a ha
  j0 := fun _ _ => rfl
  hE := fun _ _ _ _ _ z => z.elim
theorem Stk.tx {H0 H H' : Hp} {r : Addr} {ls : List Addr} {st : List (List PyData)} (h : Stk K H0 r ls st H) (q : R (CtS K r ls H) H H') : L2.Tx H H' := fun a xs z => by
  have nF : a ∉ r :: ls := fun ha => by
    obtain ⟨vs, e⟩ := h.ok.ls H a (fun _ _ => rfl) ha
    rcases z with z | ⟨ob, z⟩ <;> rw [e] at z <;> cases z
  rcases z with z | ⟨ob, z⟩
  · exact .inl (q.2 _ _ z nF)
  · exact .inr ⟨ob, q.2 _ _ z nF⟩
theorem Stk.up {H0 H H' : Hp} {r : Addr} {ls : List Addr} {st : List (List PyData)} (h : Stk K H0 r ls st H) (q : R (CtS K r ls H) H H') : Stk K H0 r ls st H' where
  top := (q.1 r List.mem_cons_self).trans h.top
  nd := h.nd
  fr := h.fr
  old := fun a o e => q.2 _ _ (h.old a o e) fun ha => by
    rw [h.fr a ha] at e
    cases e
  rows := h.rows.mv (fun l hl => q.1 l (List.mem_cons_of_mem _ hl)) (h.tx q)
theorem Stk.rep {H0 H : Hp} {r : Addr} {ls : List Addr} {st : List (List PyData)} (h : Stk K H0 r ls st H) {z : Str} {p : Int} {s1 s3 s4 : Option V} : Rep (CtS K r ls H) [some (.str z), s1, some (.int p), s3, s4] H [.dat (.str z), .un, .dat (.int p), .un, .un] := by
  refine ⟨h.ok, fun _ _ => rfl, fun a o e _ => e, rfl, fun i j l ds es e => ?_, fun l o => ?_, fun i k e => ?_, fun p hp => by cases hp⟩
  · match i with
    | 0 => cases e
    | 1 => cases e
    | 2 => cases e
    | 3 => cases e
    | 4 => cases e
    | i + 5 => simp at e
  · obtain ⟨i, ds, e⟩ := o
    match i with
    | 0 => cases e
    | 1 => cases e
    | 2 => cases e
    | 3 => cases e
    | 4 => cases e
    | i + 5 => simp at e
  · match i with
    | 0 =>
      cases e
      exact ⟨_, rfl, .str z⟩
    | 1 => cases e; trivial
    | 2 =>
      cases e
      exact ⟨_, rfl, .int p⟩
    | 3 => cases e; trivial
    | 4 => cases e; trivial
    | i + 5 => simp at e
theorem vl_sign {z : Str} {p : Nat} {σ : L2.St} {H : Hp} (h0 : σ[0]? = some (some (.str z))) (h2 : σ[2]? = some (some (.int (p : Int)))) (hz : z.length ≤ sizeLine) : Vl (tSl (rSlP K) (tVar 0) (tPart (tVar 2)) (tPart (tOp (rAddP K) (tVar 2) (tC (.int 1))))) σ H (.str (sg (tl z)[p]?)) := fun Q q =>
  vl_var h0 _ (vl_var h2 _ ⟨p, rfl, vl_op (vl_var h2) vl_c o_add _ ⟨_, rfl, .inr (.inr ⟨z, rfl, hz, by rw [cut_sg]; exact q⟩)⟩⟩)
theorem o_eqS {a b : Str} {H : Hp} : ∀ Q : VK, Q (.bl (decide (a = b))) H → rEqP K (.str a) (.str b) H Q := fun Q q => .inl ⟨rfl, by rw [dec_s]; exact q⟩
theorem o_neS {a b : Str} {H : Hp} : ∀ Q : VK, Q (.bl (!decide (a = b))) H → rNeP K (.str a) (.str b) H Q := fun Q q => .inl ⟨rfl, by rw [dec_s]; exact q⟩
theorem o_ne {a b : Int} {H : Hp} : ∀ Q : VK, Q (.bl (!decide (a = b))) H → rNeP K (.int a) (.int b) H Q := fun Q q => .inl ⟨rfl, by rw [dec_i]; exact q⟩
/-- what the loop knows -/
def VI (K : PySem.W.Frag) (H0 : Hp) (z : Str) (res : PyData) (r : Addr) (m : Nat) (σ : L2.St) (H : Hp) : Prop := ∃ (p : Nat) (ls : List Addr) (st : List (List PyData)) (s3 s4 : Option V),
  σ = [some (.str z), some (.ref r), some (.int (p : Int)), s3, s4] ∧ p + m = z.length ∧ Par st ((tl z).drop p) res ∧ Stk K H0 r ls st H ∧ ∀ row ∈ st, row.length ≤ p
def VF (K : PySem.W.Frag) (H0 : Hp) (z : Str) (res : PyData) (σ : L2.St) (H : Hp) : Prop := ∃ (s1 s3 : Option V) (v : V), σ = [some (.str z), s1, some (.int (z.length : Int)), s3, some v] ∧ Dp K H v res ∧ nl res = true ∧ ∀ a o, H0 a = some o → H a = some o
def t_tail (K : PySem.W.Frag) : TS := (tSeq (tIfS (tNot (tTru K (tVar 1))) tBreak tNext)
  (tSeq (tIfS (tTest (tOp (rNeP K) (tSl (rSlP K) (tVar 0) (tPart (tVar 2)) (tPart (tOp (rAddP K) (tVar 2) (tC (.int 1))))) (tC (.str ",")))) tNever tNext)
  (tSeq (tDrop (tBM K "list" rAppend (tOp (rIx K) (tVar 1) (tUn rNegI (tC (.int 1)))) (tCons (tVar 4) tNil)))
  (tAug 2 (tC (.int 1)) (ipI fun i j => i + j)))))
theorem tail_ok {H0 H : Hp} {z : Str} {res d : PyData} {r : Addr} {p m : Nat} {ls : List Addr} {st : List (List PyData)} {s3 : Option V} {v : V} {D : Ends} (hz : z.length < sizeLine) (hp : p ≤ z.length) (hf : Fin_ st d ((tl z).drop p) res) (hs : Stk K H0 r ls st H)
    (hr : ∀ row ∈ st, row.length < p) (hd : Dp K H v d) (hn : nl d = true) (hm : z.length ≤ p + m) (bk : ∀ σ H, VF K H0 z res σ H → D.bk σ H) (nx : ∀ m' σ H, m' ≤ m → VI K H0 z res r m' σ H → D.nx σ H) :
    t_tail K D [some (.str z), some (.ref r), some (.int (p : Int)), s3, some v] H := by
  have tru : TruV K (.ref r) H (!(ls.reverse.map V.ref).isEmpty) := .inl ⟨_, .inl (.inl hs.top), rfl⟩
  refine ⟨_, rfl, _, tru, ?_⟩
  cases hst : st with
  | nil =>
    have hls : ls = [] := List.length_eq_zero_iff.mp (by rw [hs.len, hst]; rfl)
    subst hls hst
    obtain ⟨e1, e2⟩ := hf
    subst e2
    have hpz : p = z.length := by
      have := congrArg List.length e1
      rw [List.length_drop, ← len_tl] at this
      simp at this
      omega
    subst hpz
    exact bk _ _ ⟨_, _, v, rfl, hd, hn, hs.old⟩
  | cons top st' =>
    subst hst
    obtain ⟨r', hr', par⟩ := hf
    obtain ⟨a1, a2, a3⟩ := at_of_drop hr'
    have hrw := hs.rows
    generalize hls : ls = ls0 at hrw
    cases hrw with
    | @cons l vs ds ls' st2 h1 h2 h3 h4 =>
      subst hls
      have ne : (!((l :: ls').reverse.map V.ref).isEmpty) = true := by simp
      rw [ne]
      refine vl_op (vl_sign rfl rfl (Nat.le_of_lt hz)) vl_c o_neS _ ⟨_, rfl, ?_⟩
      rw [sgeq _ com1, a1, decide_eq_true rfl]
      have at1 : atI ((l :: ls').reverse.map V.ref) (-1) = some (.ref l) := by
        rw [List.reverse_cons, List.map_append]
        exact at_last _ _
      refine vl_op (vl_var rfl) (vl_neg vl_c) (o_ix hs.top at1) _ ?_
      refine ⟨.inl ⟨rfl, _, .inl (.inl h1)⟩, v, rfl, l, vs, v, rfl, rfl, h1, ?_, ?_⟩
      · have := hr top List.mem_cons_self
        rw [h2.length]
        omega
      have nd := hs.nd
      rw [List.nodup_cons, List.nodup_cons] at nd
      have hrl : r ≠ l := fun e => nd.1 (e ▸ List.mem_cons_self)
      have tx := tx_upd_lst (o := .lst (vs ++ [v])) h1
      refine ⟨_, rfl, p, 1, rfl, rfl, nx (z.length - (p + 1)) _ _ (by omega) ⟨p + 1, l :: ls', (top ++ [d]) :: st', s3, some v, ?_, by omega, ?_, ⟨?_, hs.nd, hs.fr, ?_, ?_⟩, ?_⟩⟩
      · show [some (V.str z), some (.ref r), some (.int ((p : Int) + 1)), s3, some v] = _
        rw [show (p : Int) + 1 = ((p + 1 : Nat) : Int) by omega]
      · rw [a3]
        exact par
      · rw [upd_ne hrl]
        exact hs.top
      · intro a o e
        rw [upd_ne fun z => by rw [z, hs.fr l (List.mem_cons_of_mem _ List.mem_cons_self)] at e; cases e]
        exact hs.old a o e
      · refine .cons (vs := vs ++ [v]) upd_same ((DpAll.tx tx h3 h2).append (.cons (Dp.tx tx hn hd) .nil)) ?_ (h4.mv (fun l' hl => upd_ne fun z => nd.2.1 (z ▸ hl)) tx)
        rw [nlAll_app, h3, hn1 hn]
        rfl
      · intro row hrow
        rcases List.mem_cons.mp hrow with e | hrow
        · have := hr top List.mem_cons_self
          rw [e, List.length_append, List.length_singleton]
          omega
        · have := hr row (List.mem_cons_of_mem _ hrow)
          omega
theorem par_nl {st : List (List PyData)} {cs : List Nat} {d : PyData} (h : Par st cs d) : (∀ row ∈ st, nl.nlAll row = true) → nl d = true := by
  induction h with
  | op _ _ ih =>
    exact fun q => ih fun row h => by
      rcases List.mem_cons.mp h with e | h
      · rw [e]; rfl
      · exact q row h
  | cl1 => exact fun q => q _ List.mem_cons_self
  | @cl2 top up st r d _ ih =>
    exact fun q => ih fun row h => by
      rcases List.mem_cons.mp h with e | h
      · rw [e, nlAll_app, q up (List.mem_cons_of_mem _ List.mem_cons_self), hn1 (d := .tuple top) (q top List.mem_cons_self)]; rfl
      · exact q row (List.mem_cons_of_mem _ (List.mem_cons_of_mem _ h))
  | at1 a => exact fun _ => atm_nl a
  | @at2 cs r v d top st a _ ih =>
    exact fun q => ih fun row h => by
      rcases List.mem_cons.mp h with e | h
      · rw [e, nlAll_app, q top List.mem_cons_self, hn1 (atm_nl a)]; rfl
      · exact q row (List.mem_cons_of_mem _ h)
theorem dne {a b : Nat} (h : a ≠ b) : decide ((some a : Option Nat) = some b) = false := decide_eq_false fun e => h (Option.some.inj e)
theorem go_value_of (h : sp_value_of K vs H Q E) : t_value_of K { nx := fun _ H' => Q .non H', rt := Q } (L2.start ["text", "rows", "at", "sign", "value"] vs) H := by
  obtain ⟨ks, S, Z, ⟨z, d, rfl, par, hz, rfl, rfl⟩, r0, f⟩ := h
  have hl := r0.len
  match vs, hl with
  | [v0], _ =>
  obtain ⟨v', e1, e2⟩ := r0.sl 0 _ rfl
  have e1 : v0 = v' := by simpa using e1
  subst e1
  obtain rfl := dp_str e2
  have hz' := Nat.le_of_lt hz
  refine ⟨show 0 ≤ sizeLine by decide, fun r hr => ?_⟩
  refine ⟨fun m σ H' => VI K H z d r m σ H', ⟨z.length, 0, [], [], none, none, rfl, by omega, by simpa using par, ⟨upd_same, by simp, fun a ha => ?_, fun a o e => ?_, .nil⟩, by simp⟩, ?_⟩
  · rw [List.mem_singleton.mp ha]
    exact hr
  · rw [upd_ne (ne_of_none e hr)]
    exact e
  rintro m σ H' ⟨p, ls, st, s3, s4, rfl, hm, par, stk, hrow⟩
  refine ⟨true, rfl, br (fun _ => ?_) (fun h => by cases h)⟩
  refine ⟨fun σ' H'' => ∃ m', m' < m ∧ VI K H z d r m' σ' H'', fun _ _ h => h, ?_⟩
  have fin : ∀ σ H1, VF K H z d σ H1 → (tSeq (tIfS (tTest (tOp (rNeP K) (tVar 2) (tCB (rLenP K) (tCons (tVar 0) tNil)))) tNever tNext) (tRet (tVar 4))) { nx := fun _ H' => Q .non H', rt := Q } σ H1 := by
    rintro σ H1 ⟨s1, s3, v, rfl, hv, hn, old⟩
    refine vl_op (vl_var rfl) (z := .bl (!decide ((z.length : Int) = z.length))) (fun Q q => ⟨_, rfl, .str z, z.length, rfl, ⟨hz', rfl⟩, q⟩) o_ne _ ⟨_, rfl, br (fun h => ?_) (fun _ => ?_)⟩
    · simp at h
    · refine ⟨v, rfl, f _ _ _ rfl ⟨⟨trivial, fun a o e _ => old a o e⟩, Dp.tx (fun a xs h => ?_) hn hv⟩⟩
      rcases h with h | ⟨ob, h⟩
      · exact .inl (fsh_mk h id fun z => by rw [h] at z; exact z.2)
      · exact .inr ⟨ob, fsh_mk h id fun z => by rw [h] at z; exact z.2⟩
  have lenr : (ls.reverse.map V.ref).length = st.length := by rw [List.length_map, List.length_reverse, stk.len]
  refine vl_sign rfl rfl hz' _ ?_
  have tail : ∀ (q : Nat) (ls : List Addr) (st : List (List PyData)) (s3 : Option V) (v : V) (dv : PyData) (H1 : Hp), p < q → q ≤ z.length → Fin_ st dv ((tl z).drop q) d → Stk K H r ls st H1 → (∀ row ∈ st, row.length < q) → Dp K H1 v dv → nl dv = true →
      t_tail K { nx := fun σ' H'' => ∃ m', m' < m ∧ VI K H z d r m' σ' H'', ct := fun σ' H'' => ∃ m', m' < m ∧ VI K H z d r m' σ' H'', rt := Q, bk := (tSeq (tIfS (tTest (tOp (rNeP K) (tVar 2) (tCB (rLenP K) (tCons (tVar 0) tNil)))) tNever tNext) (tRet (tVar 4))) { nx := fun _ H' => Q .non H', rt := Q } } [some (.str z), some (.ref r), some (.int (q : Int)), s3, some v] H1 :=
    fun q ls st s3 v dv H1 h1 h2 h3 h4 h5 h6 h7 => tail_ok (m := m - 1) hz h2 h3 h4 h5 h6 h7 (by omega) fin fun m' σ H h8 h9 => ⟨m', by omega, h9⟩
  have pne : (tl z).drop p ≠ [] := by
    intro e
    rw [e] at par
    cases par with
    | at1 ha => cases atm_suf ha with | intro c h => obtain ⟨w, e, _⟩ := h; cases e
    | at2 ha _ => cases atm_suf ha with | intro c h => obtain ⟨w, e, _⟩ := h; cases e
  have close : ∀ (top : List PyData) (st' : List (List PyData)), Stk K H r ls (top :: st') H' → (∀ row ∈ top :: st', row.length ≤ p) → Fin_ st' (.tuple top) ((tl z).drop (p + 1)) d → tTru K (tVar 1) [some (.str z), some (.ref r), some (.int (p : Int)), some (.str (sg (tl z)[p]?)), s4] H' fun b H1 => if b = true then
      (tSeq (tAsg (tCB (rTupP K) (tCons (tBM0 K "list" rPop (tVar 1)) tNil)) (gName 4)) (tAug 2 (tC (.int 1)) (ipI fun i j => i + j))) { nx := t_tail K { nx := fun σ' H'' => ∃ m', m' < m ∧ VI K H z d r m' σ' H'', ct := fun σ' H'' => ∃ m', m' < m ∧ VI K H z d r m' σ' H'', rt := Q, bk := (tSeq (tIfS (tTest (tOp (rNeP K) (tVar 2) (tCB (rLenP K) (tCons (tVar 0) tNil)))) tNever tNext) (tRet (tVar 4))) { nx := fun _ H' => Q .non H', rt := Q } }, ct := fun σ' H'' => ∃ m', m' < m ∧ VI K H z d r m' σ' H'', rt := Q, bk := (tSeq (tIfS (tTest (tOp (rNeP K) (tVar 2) (tCB (rLenP K) (tCons (tVar 0) tNil)))) tNever tNext) (tRet (tVar 4))) { nx := fun _ H' => Q .non H', rt := Q } } [some (.str z), some (.ref r), some (.int (p : Int)), some (.str (sg (tl z)[p]?)), s4] H1
      else (tAsg (tCall (sp_atom_at K) [] E0 (tCons (tVar 0) (tCons (tVar 2) tNil))) (gTup K 2 (gCons (gName 4) (gCons (gName 2) gNil)))) { nx := t_tail K { nx := fun σ' H'' => ∃ m', m' < m ∧ VI K H z d r m' σ' H'', ct := fun σ' H'' => ∃ m', m' < m ∧ VI K H z d r m' σ' H'', rt := Q, bk := (tSeq (tIfS (tTest (tOp (rNeP K) (tVar 2) (tCB (rLenP K) (tCons (tVar 0) tNil)))) tNever tNext) (tRet (tVar 4))) { nx := fun _ H' => Q .non H', rt := Q } }, ct := fun σ' H'' => ∃ m', m' < m ∧ VI K H z d r m' σ' H'', rt := Q, bk := (tSeq (tIfS (tTest (tOp (rNeP K) (tVar 2) (tCB (rLenP K) (tCons (tVar 0) tNil)))) tNever tNext) (tRet (tVar 4))) { nx := fun _ H' => Q .non H', rt := Q } } [some (.str z), some (.ref r), some (.int (p : Int)), some (.str (sg (tl z)[p]?)), s4] H1 := by
    intro top st' stk hrow hf
    have hpz : p + 1 ≤ z.length := by
      cases st' with
      | nil =>
        have e := congrArg List.length hf.1
        rw [List.length_drop, ← len_tl] at e
        have hps : (tl z).drop p ≠ [] := fun hn => pne hn
        have : p < z.length := by
          refine Nat.lt_of_not_le fun hn => hps (List.drop_eq_nil_of_le (by rw [← len_tl]; exact hn))
        omega
      | cons up st' =>
        obtain ⟨r', e, _⟩ := hf
        have := (at_of_drop e).2.1
        omega
    have hrw := stk.rows
    generalize hls : ls = ls0 at hrw
    cases hrw with
    | @cons l vs ds ls' st2 h1 h2 h3 h4 =>
      subst hls
      refine ⟨.ref r, rfl, _, .inl ⟨_, .inl (.inl stk.top), rfl⟩, br (fun _ => ?_) (fun h => ?_)⟩
      · have e3 : (l :: ls').reverse.map V.ref = ls'.reverse.map V.ref ++ [.ref l] := by
          rw [List.reverse_cons, List.map_append]
          rfl
        have nd := stk.nd
        rw [List.nodup_cons, List.nodup_cons] at nd
        have hrl : l ≠ r := fun e => nd.1 (e ▸ List.mem_cons_self)
        have tx1 := tx_upd_lst (o := .lst ((l :: ls').reverse.map V.ref).dropLast) stk.top
        refine ⟨.ref r, rfl, .inl ⟨rfl, _, .inl (.inl stk.top)⟩, r, _, .ref l, rfl, rfl, stk.top, by rw [e3]; simp, l, vs, rfl, .inl ⟨.inl (.inl ((upd_ne hrl).trans h1)), fun q hq => ⟨_, rfl, p, 1, rfl, rfl, ?_⟩⟩⟩
        have tx2 := tx_upd_new (o := .tup vs) hq
        have tx : L2.Tx H' (upd (upd H' r (.lst ((l :: ls').reverse.map V.ref).dropLast)) q (.tup vs)) := fun a xs h => tx2 a xs (tx1 a xs h)
        have rq : r ≠ q := fun e => by rw [← e, upd_same] at hq; cases hq
        have keep : ∀ a, a ≠ r → a ≠ q → upd (upd H' r (.lst ((l :: ls').reverse.map V.ref).dropLast)) q (.tup vs) a = H' a := fun a z1 z2 => by rw [upd_ne z2, upd_ne z1]
        have qnew : ∀ a o, H' a = some o → a ≠ q := fun a o e z => by
          subst z
          by_cases hra : a = r
          · exact rq hra.symm
          · rw [upd_ne hra, e] at hq
            cases hq
        refine tail (p + 1) ls' st' (some (.str (sg (tl z)[p]?))) (.ref q) (.tuple top) _ (by omega) hpz hf ⟨?_, ?_, ?_, ?_, ?_⟩ (fun row hr => by have := hrow row (List.mem_cons_of_mem _ hr); omega) (.tup (.inl (.inl upd_same)) (DpAll.tx tx h3 h2)) h3
        · rw [upd_ne rq, upd_same, e3, List.dropLast_concat]
        · rw [List.nodup_cons]
          exact ⟨fun h => nd.1 (List.mem_cons_of_mem _ h), nd.2.2⟩
        · intro a ha
          rcases List.mem_cons.mp ha with e | ha
          · exact stk.fr a (e ▸ List.mem_cons_self)
          · exact stk.fr a (List.mem_cons_of_mem _ (List.mem_cons_of_mem _ ha))
        · intro a o e
          have e5 := stk.old a o e
          rw [keep a (fun z => by rw [z, stk.fr r List.mem_cons_self] at e; cases e) (qnew a o e5)]
          exact e5
        · refine h4.mv (fun l' hl => ?_) tx
          obtain ⟨vs', e5⟩ := h4.lst l' hl
          exact keep l' (fun z => nd.1 (z ▸ List.mem_cons_of_mem _ hl)) (qnew l' _ e5)
      · simp at h
  have atom : ∀ (v : PyData) (rr : List Nat), Atm ((tl z).drop p) v rr → Fin_ st v rr d → (tSeq (tIfS (tTest (tOp (rEqP K) (tVar 3) (tC (.str "(")))) (tSeq (tIfS (tTest (tOp (rEqP K) (tCB (rLenP K) (tCons (tVar 1) tNil)) (tC (.int 60)))) tNever tNext)
  (tSeq (tDrop (tBM K "list" rAppend (tVar 1) (tCons (tLst tNil) tNil)))
  (tSeq (tAug 2 (tC (.int 1)) (ipI fun i j => i + j))
  tCont))) tNext)
  (tSeq (tIfS (tAnd (tTest (tOp (rEqP K) (tVar 3) (tC (.str ")")))) (tTru K (tVar 1))) (tSeq (tAsg (tCB (rTupP K) (tCons (tBM0 K "list" rPop (tVar 1)) tNil)) (gName 4))
  (tAug 2 (tC (.int 1)) (ipI fun i j => i + j))) (tAsg (tCall (sp_atom_at K) [] E0 (tCons (tVar 0) (tCons (tVar 2) tNil))) (gTup K 2 (gCons (gName 4) (gCons (gName 2) gNil)))))
  (t_tail K))) { nx := fun σ' H'' => ∃ m', m' < m ∧ VI K H z d r m' σ' H'', ct := fun σ' H'' => ∃ m', m' < m ∧ VI K H z d r m' σ' H'', rt := Q, bk := (tSeq (tIfS (tTest (tOp (rNeP K) (tVar 2) (tCB (rLenP K) (tCons (tVar 0) tNil)))) tNever tNext) (tRet (tVar 4))) { nx := fun _ H' => Q .non H', rt := Q } } [some (.str z), some (.ref r), some (.int (p : Int)), some (.str (sg (tl z)[p]?)), s4] H' := by
    intro v rr ha hf
    obtain ⟨c, w, hcw, n40, n41⟩ := atm_suf ha
    obtain ⟨a1, a2, a3⟩ := at_of_drop (hcw.trans (by rw [List.cons_append]))
    have hlen := len_drop hcw (Nat.le_of_lt a2)
    rw [List.length_cons] at hlen
    refine vl_op (vl_var rfl) vl_c o_eqS _ ⟨_, rfl, br (fun h => ?_) (fun _ => ?_)⟩
    · rw [sgeq _ par1, a1, dne n40] at h
      cases h
    refine vl_op (vl_var rfl) vl_c o_eqS _ ⟨_, rfl, br (fun h => ?_) (fun _ => ?_)⟩
    · rw [sgeq _ par2, a1, dne n41] at h
      cases h
    have ea : E1 (CtS K r ls H') (tCall (sp_atom_at K) [] E0 (tCons (tVar 0) (tCons (tVar 2) tNil))) [.dat (.str z), .un, .dat (.int (p : Int)), .un, .un] (.dat (.tuple [v, .int ((z.length - rr.length : Nat) : Int)])) :=
      e_callP (C := CtS K r ls H') (ks' := [.dat (.str z), .dat (.int (p : Int))]) (a_cons (e_var rfl) (a_cons (e_var rfl) a_nil)) (.cons (.dat fun h => by cases h) (.cons (.dat fun h => by cases h) .nil)) ⟨z, p, v, rr, rfl, ha, hz', rfl, rfl⟩ fun k h => h
    refine ea _ H' stk.rep _ fun k u H1 hk q o => ?_
    subst hk
    have o : Dp K (msk (CtS K r ls H') _ H1) u _ := o
    obtain ⟨a, xs, rfl, sq, da⟩ := dp_tup (Dp.ex msk_le o)
    cases da with
    | cons d1 da =>
      cases da with
      | cons d2 da =>
        cases da
        obtain rfl := dp_int d2
        refine ⟨a, _, rfl, sq, rfl, _, _, rfl, _, _, rfl, rfl, ?_⟩
        refine tail (z.length - rr.length) ls st (some (.str (sg (tl z)[p]?))) _ v H1 (by omega) (by omega) ?_ (stk.up q) (fun row hr => by have := hrow row hr; omega) d1 (atm_nl ha)
        have e9 : (tl z).drop (z.length - rr.length) = rr := by
          rw [show z.length - rr.length = p + (c :: w).length by rw [List.length_cons]; omega, ← List.drop_drop, hcw, List.drop_left]
        rw [e9]
        exact hf
  generalize hcs : (tl z).drop p = cs at par atom
  cases par with
  | op h60 par =>
    obtain ⟨a1, a2, a3⟩ := at_of_drop hcs
    refine vl_op (vl_var rfl) vl_c o_eqS _ ⟨_, rfl, br (fun _ => ?_) (fun h => ?_)⟩
    · refine vl_op (vl_len (vl_var rfl) stk.top) vl_c o_eq _ ⟨_, rfl, br (fun h => ?_) (fun _ => ?_)⟩
      · rw [lenr] at h
        have := of_decide_eq_true h
        omega
      · refine ⟨.ref r, rfl, .inl ⟨rfl, _, .inl (.inl stk.top)⟩, show 0 ≤ sizeLine by decide, fun q hq => ⟨r, _, .ref q, rfl, rfl, (upd_ne (ne_of_none stk.top hq)).trans stk.top, ?_, ?_⟩⟩
        · rw [lenr]
          exact Nat.lt_trans h60 (by decide)
        have hqr : r ≠ q := ne_of_none stk.top hq
        have hql : ∀ l ∈ ls, l ≠ q := fun l hl => by
          obtain ⟨vs, e⟩ := stk.rows.lst l hl
          exact ne_of_none e hq
        have hrl := List.nodup_cons.mp stk.nd
        have top1 : upd H' q (.lst []) r = some (.lst (ls.reverse.map V.ref)) := (upd_ne hqr).trans stk.top
        refine ⟨_, rfl, p, 1, rfl, rfl, m - 1, by omega, p + 1, q :: ls, [] :: st, some (.str (sg (tl z)[p]?)), s4, ?_, by omega, ?_, ⟨?_, ?_, ?_, ?_, ?_⟩, ?_⟩
        · show [some (V.str z), some (.ref r), some (.int ((p : Int) + 1)), some (.str (sg (tl z)[p]?)), s4] = _
          rw [show (p : Int) + 1 = ((p + 1 : Nat) : Int) by omega]
        · rw [a3]
          exact par
        · rw [upd_same, List.reverse_cons, List.map_append]
          rfl
        · rw [List.nodup_cons, List.nodup_cons]
          refine ⟨?_, fun hl => hql q hl rfl, hrl.2⟩
          intro hm
          rcases List.mem_cons.mp hm with e | hm
          · exact hqr e
          · exact hrl.1 hm
        · intro a ha
          rcases List.mem_cons.mp ha with e | ha
          · exact e ▸ stk.fr r List.mem_cons_self
          · rcases List.mem_cons.mp ha with e | ha
            · subst e
              cases hz : H a with
              | none => rfl
              | some o =>
                rw [stk.old a o hz] at hq
                cases hq
            · exact stk.fr a (List.mem_cons_of_mem _ ha)
        · intro a o e
          have n1 : a ≠ r := fun z => by rw [z, stk.fr r List.mem_cons_self] at e; cases e
          rw [upd_ne n1, upd_ne (ne_of_none (stk.old a o e) hq)]
          exact stk.old a o e
        · have tx : L2.Tx H' (upd (upd H' q (.lst [])) r (.lst (ls.reverse.map V.ref ++ [V.ref q]))) := fun a xs h => tx_upd_lst top1 a xs (tx_upd_new hq a xs h)
          refine .cons (vs := []) ((upd_ne (Ne.symm hqr)).trans upd_same) .nil rfl (stk.rows.mv (fun l hl => ?_) tx)
          rw [upd_ne (show l ≠ r from fun z => hrl.1 (z ▸ hl)), upd_ne (hql l hl)]
        · intro row hrw
          rcases List.mem_cons.mp hrw with e | hrw
          · rw [e]
            exact Nat.zero_le _
          · have := hrow row hrw
            omega
    · rw [sgeq _ par1, a1] at h
      simp at h
  | @cl1 top =>
    obtain ⟨a1, a2, a3⟩ := at_of_drop hcs
    refine vl_op (vl_var rfl) vl_c o_eqS _ ⟨_, rfl, br (fun h => ?_) (fun _ => ?_)⟩
    · rw [sgeq _ par1, a1] at h
      simp at h
    refine vl_op (vl_var rfl) vl_c o_eqS _ ⟨_, rfl, br (fun _ => ?_) (fun h => ?_)⟩
    · exact close top [] stk hrow ⟨a3, rfl⟩
    · rw [sgeq _ par2, a1] at h
      simp at h
  | @cl2 top up st' r' _ par =>
    obtain ⟨a1, a2, a3⟩ := at_of_drop hcs
    refine vl_op (vl_var rfl) vl_c o_eqS _ ⟨_, rfl, br (fun h => ?_) (fun _ => ?_)⟩
    · rw [sgeq _ par1, a1] at h
      simp at h
    refine vl_op (vl_var rfl) vl_c o_eqS _ ⟨_, rfl, br (fun _ => ?_) (fun h => ?_)⟩
    · exact close top (up :: st') stk hrow ⟨r', a3, par⟩
    · rw [sgeq _ par2, a1] at h
      simp at h
  | at1 ha => exact atom d [] ha ⟨rfl, rfl⟩
  | @at2 _ r' v _ top st' ha par => exact atom v (44 :: r') ha ⟨r', rfl, par⟩
theorem go_untold (h : sp_untold K vs H Q E) : t_untold K { nx := fun _ H' => Q .non H', rt := Q } (L2.start ["text"] vs) H := by
  refine sp_body ?_ h
  rintro H E ks S Z ⟨z, d, rfl, hp, hz, rfl, rfl⟩ n _
  change BS ⟨K, noF, noJ, H, false, [], E, noZ⟩ _ [.dat (.str z)] _
  refine b_retS (e_callP (C := ⟨K, noF, noJ, H, false, [], E, noZ⟩) (S := fun k => k = .dat d) (ks' := [.dat (.str z)]) (a_cons (e_var rfl) a_nil) (.cons (.dat fun h => by cases h) .nil) ⟨z, d, rfl, hp, hz, rfl, rfl⟩ fun k h => h) ?_
  rintro _ rfl
  exact ⟨.inr (par_nl hp fun _ h => by cases h), rfl⟩
end
end Mh
namespace Mh
open PySem PySem.Spec PyProof.Rows L2 TL
/-! ### reading value texts: plain laws of any text -/
theorem numL_back : ∀ {w : List Nat}, arf w = true → numL (NumText.digitsVal w) = w := by
  intro w
  generalize hn : w.length = n
  induction n generalizing w with
  | zero =>
    intro h
    have : w = [] := List.length_eq_zero_iff.mp hn
    subst this
    exact absurd h (by decide)
  | succ n ih =>
    intro h
    obtain ⟨u, c, rfl⟩ : ∃ u c, w = u ++ [c] := ⟨w.dropLast, w.getLast (by intro e; subst e; simp at hn), (List.dropLast_concat_getLast _).symm⟩
    have hl : u.length = n := by simpa using hn
    have hall : (u ++ [c]).all fig = true := by
      unfold arf at h
      rw [Bool.and_eq_true] at h
      exact h.1
    have hc : 48 ≤ c ∧ c ≤ 57 := by
      have := List.all_eq_true.mp hall c (by simp)
      simpa [fig] using this
    have ev : NumText.digitsVal (u ++ [c]) = NumText.digitsVal u * 10 + (c - 48) := by
      unfold NumText.digitsVal
      rw [List.foldl_append]
      rfl
    cases hu : u with
    | nil =>
      rw [hu] at ev
      have e0 : NumText.digitsVal ([] ++ [c]) = c - 48 := by rw [ev]; simp [NumText.digitsVal]
      rw [e0, numL_lt (by omega)]
      have : 48 + (c - 48) = c := by omega
      rw [this]
      rfl
    | cons a t =>
      have ha : a ≠ 48 := by
        intro e
        subst e
        rw [hu] at h
        unfold arf at h
        rw [Bool.and_eq_true] at h
        have := h.2
        simp at this
      have hua : arf u = true := by
        unfold arf
        rw [List.all_append, Bool.and_eq_true] at hall
        rw [hall.1, hu]
        simp [ha]
      have ih2 := ih hl hua
      have pos : 1 ≤ NumText.digitsVal u := by
        refine Nat.one_le_iff_ne_zero.mpr fun e => ?_
        rw [e, numL_lt (by decide)] at ih2
        rw [hu] at ih2
        injection ih2 with e1 _
        exact ha e1.symm
      rw [← hu, ev, numL_step (by omega)]
      have e1 : (NumText.digitsVal u * 10 + (c - 48)) / 10 = NumText.digitsVal u := by omega
      have e2 : 48 + (NumText.digitsVal u * 10 + (c - 48)) % 10 = c := by omega
      rw [e1, e2, ih2]
theorem numL_small : ∀ {k n : Nat}, (numL n).length ≤ k → n < 10 ^ k
  | 0, n, h => by
    have := numL_ne n
    exact absurd (List.length_eq_zero_iff.mp (Nat.le_zero.mp h)) this
  | k + 1, n, h => by
    by_cases h10 : n < 10
    · exact Nat.lt_of_lt_of_le h10 (by rw [Nat.pow_succ]; exact Nat.le_mul_of_pos_left 10 (Nat.pow_pos (by decide)))
    · rw [numL_step (by omega), List.length_append, List.length_singleton] at h
      have := numL_small (k := k) (n := n / 10) (by omega)
      rw [Nat.pow_succ]
      omega
theorem tw_split (p : Nat → Bool) (l : List Nat) : l = l.takeWhile p ++ l.drop (l.takeWhile p).length := by
  have := List.take_append_drop (l.takeWhile p).length l
  rw [take_tw] at this
  exact this.symm
theorem tw_next {p : Nat → Bool} (l : List Nat) : ∀ c, (l.drop (l.takeWhile p).length).head? = some c → p c = false := by
  intro c hc
  have h := tw_at p l (l.takeWhile p).length (Nat.le_refl _)
  rw [List.head?_drop] at hc
  rw [hc] at h
  simpa using h
/-- a number at the front -/
def nmv (cs : List Nat) : PyData := numV ⟨(cs.takeWhile fig).toArray⟩ 40
theorem nmv_some {cs : List Nat} (h : nmv cs ≠ .none) : ∃ n : Nat, nmv cs = .int (n : Int) ∧ cs.takeWhile fig = numL n ∧ n < 10 ^ 40 := by
  unfold nmv numV at h ⊢
  split at h
  · exact absurd rfl h
  · rename_i hb
    rw [if_neg hb]
    have hb2 : decide ((40 : Int) < ((⟨(cs.takeWhile fig).toArray⟩ : Str).length : Int)) = false ∧ (!arf (cs.takeWhile fig)) = false := by
      have := Bool.eq_false_iff.mpr hb
      rw [Bool.or_eq_false_iff] at this
      exact this
    have ha : arf (cs.takeWhile fig) = true := by simpa using hb2.2
    have hl : (cs.takeWhile fig).length ≤ 40 := by
      have h1 := of_decide_eq_false hb2.1
      have h2 : (⟨(cs.takeWhile fig).toArray⟩ : Str).length = (cs.takeWhile fig).length := by rw [len_tl]
      omega
    have back := numL_back ha
    exact ⟨NumText.digitsVal (cs.takeWhile fig), rfl, back.symm, numL_small (by rw [back]; exact hl)⟩
theorem nmv_of {n : Nat} {r : List Nat} (hn : n < 10 ^ 40) (hr : ∀ c, r.head? = some c → fig c = false) : nmv (numL n ++ r) = .int (n : Int) := by
  have hfa : (numL n).all fig = true := List.all_eq_true.mpr fun c hc => by
    have := numL_digits n c hc
    simp [fig]
    exact this
  unfold nmv
  rw [tw_stop2 hfa hr]
  unfold numV
  have hcl : (⟨(numL n).toArray⟩ : Str).length = (numL n).length := by rw [len_tl]
  have hnl : (numL n).length ≤ 40 := numL_len (by decide) hn
  rw [hcl, decide_eq_false (by omega)]
  show (if (false || !arf (numL n)) then PyData.none else .int ((NumText.digitsVal (numL n) : Nat) : Int)) = _
  rw [numL_head, numL_val]
  rfl
theorem num_iff (cs : List Nat) : (∃ n r, cs = numL n ++ r ∧ n < 10 ^ 40 ∧ ∀ c, r.head? = some c → fig c = false) ↔ nmv cs ≠ .none := by
  constructor
  · rintro ⟨n, r, rfl, h1, h2⟩
    rw [nmv_of h1 h2]
    exact fun h => by cases h
  · intro h
    obtain ⟨n, _, h2, h3⟩ := nmv_some h
    refine ⟨n, cs.drop (cs.takeWhile fig).length, ?_, h3, tw_next cs⟩
    rw [← h2]
    exact tw_split fig cs
/-- a string at the front -/
theorem str_iff (cs : List Nat) : (∃ w r, cs = w ++ 34 :: r ∧ w.all ltr = true) ↔ cs[(cs.takeWhile ltr).length]? = some 34 := by
  constructor
  · rintro ⟨w, r, rfl, hw⟩
    rw [tw_stop hw rfl, List.getElem?_append_right (Nat.le_refl _), Nat.sub_self]
    rfl
  · intro h
    refine ⟨cs.takeWhile ltr, cs.drop ((cs.takeWhile ltr).length + 1), ?_, ?_⟩
    · have hl := (List.getElem?_eq_some_iff.mp h)
      obtain ⟨h1, h2⟩ := hl
      have := tw_split ltr cs
      rw [List.drop_eq_getElem_cons h1, h2] at this
      exact this
    · exact List.all_takeWhile
theorem atm_det {cs r r' : List Nat} {v v' : PyData} (h : Atm cs v r) (h' : Atm cs v' r') : v = v' ∧ r = r' := by
  cases h with
  | @non r =>
    generalize hc : (45 :: r) = cs at h'
    cases h' with
    | non =>
      injection hc with _ e
      exact ⟨rfl, e⟩
    | str _ => injection hc with e _; cases e
    | @num n _ _ _ =>
      obtain ⟨c, w, e⟩ := List.exists_cons_of_ne_nil (numL_ne n)
      have := numL_digits n c (by rw [e]; exact List.mem_cons_self)
      rw [e] at hc
      injection hc with e _
      omega
  | @str w r hw =>
    generalize hc : (34 :: (w ++ 34 :: r)) = cs at h'
    cases h' with
    | non => injection hc with e _; cases e
    | @str w' r' hw' =>
      injection hc with _ e
      have e1 := tw_stop (c := 34) (r := r) hw rfl
      have e2 := tw_stop (c := 34) (r := r') hw' rfl
      rw [e, e2] at e1
      subst e1
      have := List.append_cancel_left e
      injection this with _ e3
      exact ⟨rfl, e3⟩
    | @num n _ _ _ =>
      obtain ⟨c, w2, e⟩ := List.exists_cons_of_ne_nil (numL_ne n)
      have := numL_digits n c (by rw [e]; exact List.mem_cons_self)
      rw [e] at hc
      injection hc with e _
      omega
  | @num n r hn hr =>
    generalize hc : (numL n ++ r) = cs at h'
    have hd : ∀ m : Nat, ∃ c w, numL m = c :: w ∧ 48 ≤ c ∧ c ≤ 57 := fun m => by
      obtain ⟨c, w, e⟩ := List.exists_cons_of_ne_nil (numL_ne m)
      have := numL_digits m c (by rw [e]; exact List.mem_cons_self)
      exact ⟨c, w, e, this.1, this.2⟩
    cases h' with
    | non =>
      obtain ⟨c, w, e, a, b⟩ := hd n
      rw [e] at hc
      injection hc with e _
      omega
    | str _ =>
      obtain ⟨c, w, e, a, b⟩ := hd n
      rw [e] at hc
      injection hc with e _
      omega
    | @num m r' hm hr' =>
      have fa : ∀ m : Nat, (numL m).all fig = true := fun m => List.all_eq_true.mpr fun c hc => by
        have := numL_digits m c hc
        simp [fig]
        exact this
      have e1 := tw_stop2 (fa n) hr
      have e2 := tw_stop2 (fa m) hr'
      rw [hc, e2] at e1
      have e3 := numL_inj e1
      subst e3
      exact ⟨rfl, List.append_cancel_left hc⟩
/-! ### the steps of the reader, as equivalences -/
theorem par_op {st : List (List PyData)} {r : List Nat} {d : PyData} : Par st (40 :: r) d ↔ st.length < 60 ∧ Par ([] :: st) r d := by
  constructor
  · intro h
    cases h with
    | op h1 h2 => exact ⟨h1, h2⟩
    | at1 a =>
      obtain ⟨c, w, e, n, _⟩ := atm_suf a
      injection e with e _
      exact absurd e.symm n
    | at2 a _ =>
      obtain ⟨c, w, e, n, _⟩ := atm_suf a
      injection e with e _
      exact absurd e.symm n
  · exact fun h => .op h.1 h.2
theorem par_cl {top : List PyData} {st : List (List PyData)} {r : List Nat} {d : PyData} : Par (top :: st) (41 :: r) d ↔ Fin_ st (.tuple top) r d := by
  constructor
  · intro h
    cases h with
    | cl1 => exact ⟨rfl, rfl⟩
    | cl2 h => exact ⟨_, rfl, h⟩
    | at2 a _ =>
      obtain ⟨c, w, e, _, n⟩ := atm_suf a
      injection e with e _
      exact absurd e.symm n
  · intro h
    cases st with
    | nil =>
      obtain ⟨rfl, rfl⟩ := h
      exact .cl1
    | cons up st =>
      obtain ⟨r', rfl, p⟩ := h
      exact .cl2 p
theorem par_at {st : List (List PyData)} {cs : List Nat} {d : PyData} (h40 : cs.head? ≠ some 40) (h41 : cs.head? ≠ some 41 ∨ st = []) : Par st cs d ↔ ∃ v r, Atm cs v r ∧ Fin_ st v r d := by
  constructor
  · intro h
    cases h with
    | op _ _ => exact absurd rfl h40
    | cl1 => rcases h41 with h | h
             · exact absurd rfl h
             · cases h
    | cl2 _ => rcases h41 with h | h
               · exact absurd rfl h
               · cases h
    | at1 a => exact ⟨_, _, a, rfl, rfl⟩
    | at2 a p => exact ⟨_, _, a, _, rfl, p⟩
  · rintro ⟨v, r, a, f⟩
    exact fin_atm f fun _ => a
/-- what is read is what the text tells -/
def pre (st : List (List PyData)) : List Nat := match st with
  | [] => []
  | row :: st => pre st ++ 40 :: txtAll row
theorem par_back {st : List (List PyData)} {cs : List Nat} {d : PyData} (h : Par st cs d) : (∀ row ∈ st, gdAll row = true) → txt d = pre st ++ cs ∧ gd d = true := by
  have ag : ∀ {cs r : List Nat} {v : PyData}, Atm cs v r → cs = txt v ++ r ∧ gd v = true := fun {cs r v} a => by
    cases a with
    | non => exact ⟨rfl, rfl⟩
    | @str w _ hw => exact ⟨by rw [txt]; simp, hw⟩
    | @num n _ hn _ => exact ⟨rfl, by simp [gd]; omega⟩
  induction h with
  | @op st r d _ _ ih =>
    intro q
    obtain ⟨h1, h2⟩ := ih fun row h => by
      rcases List.mem_cons.mp h with e | h
      · rw [e]; rfl
      · exact q row h
    exact ⟨by rw [h1]; simp [pre, txtAll], h2⟩
  | @cl1 top =>
    intro q
    have hg := q top List.mem_cons_self
    exact ⟨by rw [txt]; simp [pre], hg⟩
  | @cl2 top up st r d _ ih =>
    intro q
    have hg := q top List.mem_cons_self
    obtain ⟨h1, h2⟩ := ih fun row h => by
      rcases List.mem_cons.mp h with e | h
      · rw [e, gdAll_app, q up (List.mem_cons_of_mem _ List.mem_cons_self)]
        simp [gdAll, gd, hg]
      · exact q row (List.mem_cons_of_mem _ (List.mem_cons_of_mem _ h))
    exact ⟨by rw [h1]; simp [pre, txtAll_app, txtAll, txt], h2⟩
  | at1 a =>
    intro _
    obtain ⟨h1, h2⟩ := ag a
    exact ⟨by rw [h1]; simp [pre], h2⟩
  | @at2 cs r v d top st a _ ih =>
    intro q
    obtain ⟨h1, h2⟩ := ag a
    obtain ⟨h3, h4⟩ := ih fun row h => by
      rcases List.mem_cons.mp h with e | h
      · rw [e, gdAll_app, q top List.mem_cons_self]
        simp [gdAll, h2]
      · exact q row (List.mem_cons_of_mem _ h)
    exact ⟨by rw [h3, h1]; simp [pre, txtAll_app, txtAll], h4⟩
theorem par_txt_back {cs : List Nat} {d : PyData} (h : Par [] cs d) : txt d = cs ∧ gd d = true := by
  obtain ⟨h1, h2⟩ := par_back h fun _ h => by cases h
  exact ⟨by rw [h1]; rfl, h2⟩
end Mh
namespace Mh
open PySem PySem.Spec PyProof.Rows L2 TL
/-! ### an __init__ that begins with super().__init__('..'), of a class under own classes under ValueError -/
/-- the written part's word of the class at D, its __init__ at f -/
structure HInit (P : Program) (K : PySem.W.Frag) (f D : Addr) (name qual : Str) (params : Arguments) (body : List Stmt) (scope : Scope) (fd : FuncData) : Prop where
  cls : OexC K D
  fn : ∃ (oc : Value) (od an : Option Addr) (osl : Array (Option Value)) (dV kV doc pm ct : Value) (cda cc : Addr) (ccl cl : Value) (cdd cld : Option Addr) (ccs csl : Array (Option Value)) (vs : Array Value) (file : Str) (tf : Tok),
    fd = PySem.W.fnX name qual params body scope [("__class__", cc)] dV kV doc pm an (.ref cda) ct ∧ K.lookup f = some ⟨oc, od, .func fd, osl⟩ ∧ PySem.W.codeIn K (.ref cda) qual = true ∧
    K.lookup cda = some ⟨ccl, cdd, .fields vs, ccs⟩ ∧ vs[2]? = some (.str file tf) ∧ ((P.main.file : Str) == file) = true ∧ K.lookup cc = some ⟨cl, cld, .cell (some (.ref D)), csl⟩
  sup : PySem.W.ks_superIn K D D "__init__" = some (some (.builtin "ValueError.__init__"))
  sub : PySem.W.subIn K (.ref D) (.type "ValueError") = some true
  selfs : PySem.W.mroIn K D (.ref D) = some true
  opq : PySem.W.nsIn K PySem.cStatics "thirdparty.any" = some none
abbrev supSt (p0 p1 p2 p3 p4 p5 : Pos) (z : Str) (kd : Nat) : Stmt := .Expr (.Call (.Attribute (.Call (.Name "super" p0) [] [] p1) "__init__" p2) [.Constant (.str z) kd p3] [] p4) p5
section
variable {CX : CXT} {P : Program} {w : World} {K : PySem.W.Frag} {mg : Str → Option Value} {base : Heap} {N : List Str} {env : Env} {A : Around} {outer : List Env} {s : Shared} {H : Hp} {E : XK}
/-- the context of such a body -/
def cxH (CX : CXT) (P : Program) (w : World) (K : PySem.W.Frag) (mg : Str → Option Value) (base : Heap) (N : List Str) (env : Env) (A : Around) (outer : List Env) (s : Shared) (H : Hp) (E : XK) : Cx where
  prog := P
  w := w
  K := K
  mg := mg
  base := base
  A := A.deeper env
  N := N
  s_0 := s
  H_0 := H
  env := env
  outer := outer
  stack := env :: outer
  ex := []
  calm := true
  fn := fun _ => false
  pn := []
  xe := fun e s' => wpAny (model P w) (A.deeper env) (leaving env e) (fun _ s'' => CX outer H s E e s'') (fun e' s'' => CX outer H s E e' s'') s'
end
/-- the wrapper called -/
theorem call_mwV {prog : Program} {w : World} {A : Around} {E : Value → Shared → Prop} {h : Heap} {g : Array GenState} {d : Drawn} {t : Nat} {os : OsState}
    {nm q : Str} {C N : Addr} {bs bm : List Value} {hdct : Bool} {sn : List Str} {sub : List Value} {ab : Bool} {col : Option Bool} {dd : Option Addr} {k0 k1 k2 k3 k5 : Option Value} {u e t0 : Addr} {rest : List Value} {Q : Value → Shared → Prop}
    (hC : h.get? C = some (excClassObj nm q C N bs bm hdct sn sub ab col dd k0 k1 k2 k3 k5 "ValueError.__new__")) (he : h.get? e = some (HandSPX.excO C t0)) (hu : h.get? u = some (PySem.W.kxs_mw "ValueError.__init__" e)) (hrest : rest.length ≤ sizeLine)
    (hq : ∀ h' t1, (∀ b o, b ≠ e → h.get? b = some o → h'.get? b = some o) → h'.get? e = some (HandSPX.excO C t1) → Q .none ⟨h', g, d, t, os⟩) :
    wpAny (model prog w) A (call (.ref u) rest) Q E ⟨h, g, d, t, os⟩ := by
  refine wpAny_call (codeAny_of_tree ?_)
  show wpAny _ A.in1 (callAny (.ref u) ⟨rest, []⟩) _ _ _
  simp only [callAny]
  refine wpAny_bind (wpAny_load hu ?_)
  simp only [PySem.W.kxs_mw, show (Value.type "method-wrapper" == Value.type "method" || Value.type "method-wrapper" == Value.type "builtin_function_or_method" || Value.type "method-wrapper" == Value.type "method-wrapper") = true by decide, if_true]
  refine W.KFB.if_so (by decide) ?_
  refine wpAny_bind (ESX.check_bound F.excBase_ValueError hC he rfl ?_)
  refine wpAny_bind (wpAny_pure (wpAny_pure ?_))
  refine ⟨Code.quiet_builtin _ (by decide +kernel), codeAny_builtin F.excBase_ValueError.initEntry ?_⟩
  rw [Around.under_plainId F.excBase_ValueError.init.plain _]
  wp_walk
  refine hq _ h.objs.size (fun b o hb ho => ?_) ?_
  · rw [Heap.get?_update_other _ _ (Ne.symm hb)]
    exact Heap.get?_push_of_some _ ho
  · rw [Heap.get?_update_self _ (Heap.get?_push_of_some _ he) rfl]
    rfl

theorem clsIn_of {K : PySem.W.Frag} {C : Addr} (T : OexC K C) : ∃ cd, PySem.W.clsIn K C = some cd := by
  obtain ⟨nm, q, N, bs, bm, sn, sub, ab, col, dd, k0, k1, k2, k3, k5, hC, hbm⟩ := T.cls
  exact ⟨{ name := nm, bases := bs, mro := .ref C :: bm, ns := N, qualname := q, hasDict := true, slotNames := sn, subclasses := sub, abstract := ab, collection := col, hasDel := false }, by unfold PySem.W.clsIn; rw [hC] <;> rfl⟩
section
variable {CX : CXT} {P : Program} {w : World} {K : PySem.W.Frag} {mg : Str → Option Value} {base : Heap} {X : Cx}
/-- super().__init__('..') at the front: the rest of the body stands behind it -/
theorem sup_run {f D cda cc : Addr} {fd : FuncData} {body rest : List Stmt} {pins : List (Addr × Obj)} {s : Shared} {σ : L2.St} {H : Hp} {a : Addr} {p0 p1 p2 p3 p4 p5 : Pos} {z : Str} {kd : Nat} {ar : Arg} {oc cl ccl : Value} {od cld cdd : Option Addr} {osl csl ccs : Array (Option Value)} {vs : Array Value} {file : Str} {tf : Tok}
    {Q : Flow → Shared → Prop} {m0 : Str → Option Value} (I : Inv X pins σ H s) (T : OexC X.K D) (hsup : PySem.W.ks_superIn X.K D D "__init__" = some (some (.builtin "ValueError.__init__"))) (hsub : PySem.W.subIn X.K (.ref D) (.type "ValueError") = some true) (hself : PySem.W.mroIn X.K D (.ref D) = some true)
    (hopq : PySem.W.nsIn X.K cStatics "thirdparty.any" = some none) (hfl : X.K.lookup f = some ⟨oc, od, .func fd, osl⟩) (hhead : (fd.params.posonlyargs ++ fd.params.args).head? = some ar) (hcodel : X.K.lookup cda = some ⟨ccl, cdd, .fields vs, ccs⟩) (hvs : vs[2]? = some (.str file tf)) (hfile : ((X.prog.main.file : Str) == file) = true)
    (hcell : X.K.lookup cc = some ⟨cl, cld, .cell (some (.ref D)), csl⟩) (mgs : X.mg "super" = none)
    (hef : X.env.func = some f) (hec : X.env.code = .ref cda) (hks : X.env.kindOf "super" = some .globalImplicit) (hkc : X.env.kindOf "__class__" = some .free) (hka : X.env.kindOf ar.arg = some .local) (hcc : X.env.cells.lookup ("__class__" : Str) = some cc)
    (htop : (X.prog.main.scope.names.lookup ("super" : Str)).isSome = false) (hns : s.heap.Ns X.env.locals m0) (hm0 : m0 ar.arg = some (.ref a)) (ea : H a = some (exo a D none))
    {pl : Sem Bool} (he : eval (.Call (.Attribute (.Call (.Name "super" p0) [] [] p1) "__init__" p2) [.Constant (.str z) kd p3] [] p4) X.env = (do
      let ov ← attributeBase (.Call (.Name "super" p0) [] [] p1) "__init__" X.env (eval (.Call (.Name "super" p0) [] [] p1) X.env)
      standAt p2.atName
      let (f, first) ← holding [ov] (getMethod ov "__init__" pl)
      callWith p4 f first (backTo p4 (starEach [.Constant (.str z) kd p3] X.env)) [])) (hi : interactive X.env = false) (hsw : swapsWith (.Call (.Attribute (.Call (.Name "super" p0) [] [] p1) "__init__" p2) [.Constant (.str z) kd p3] [] p4) none p5.line X.env = pure false)
    (k : ∀ s', Inv X pins σ H s' → wpAny (model X.prog X.w) X.A (execs rest X.env) Q X.xe s') :
    _root_.PySem.wpAt (model X.prog X.w) X.A (.func body X.env) (execs (supSt p0 p1 p2 p3 p4 p5 z kd :: rest) X.env) Q X.xe s := by
  obtain ⟨cd, hcd⟩ := clsIn_of T
  obtain ⟨oD, hD1, hD2⟩ : ∃ oD, X.K.lookup D = some oD ∧ oD.data = .cls cd := by
    unfold PySem.W.clsIn at hcd
    split at hcd
    · rename_i c d cd' sl ho
      cases hcd
      exact ⟨_, ho, rfl⟩
    · cases hcd
  obtain ⟨nm, q, N, bs, bm, sn, sub, ab, col, dd, k0, k1, k2, k3, k5, hC, hbm⟩ := T.cls
  refine PySem.ks_wpAt_execs_cons (PySem.ks_wpAt_Expr_any (PySem.ks_wpAt_MethodCall (pl := pl) (PySem.ks_wpAt_super_base hks hkc (by decide) hef (I.kIn _ _ hfl) rfl hhead hec (I.kIn _ _ hcodel) rfl hvs hfile htop ?_) he) hi hsw)
  have gb : s.heap.Ns X.env.globals X.mg := by
    rw [I.ok.glob]
    exact I.mod.glob.keeps I.bk
  obtain ⟨mb, hmb, hmb2⟩ := I.mod.blt
  have bb : s.heap.Ns X.env.builtins mb := by
    rw [I.ok.blt]
    exact hmb.keeps I.bk
  refine PySem.W.ks_loadName_global I.ok.kind hks (PySem.Calls.loadGlobal_builtin gb mgs bb ((hmb2 "super" (by decide)).trans (by kernel_rfl)) ⟨rfl, ?_⟩)
  refine wpAny_loadName_free I.ok.kind hkc hcc ⟨_, I.kIn _ _ hcell, rfl⟩ ?_
  refine wpAny_loadName_local I.ok.kind hka hns hm0 ?_
  have hDh : s.heap.get? D = some oD := I.kIn _ _ hD1
  obtain ⟨t1, ho⟩ := exo_at I.hok ea
  obtain ⟨hp, g, d, t, os⟩ := s
  refine PySem.ks_wpAny_isType_cls hDh hD2 ⟨rfl, ?_⟩
  refine PySem.ks_wpAny_call_super hDh hD2 ho rfl (fun c e => by cases e) (PySem.W.looks_mroIn I.kIn hself) fun h' e1 kp => ?_
  have I2 : Inv X pins σ H ⟨h', g, d, t, os⟩ := I.kept (t' := t) kp
  have ho2 := kp _ _ ho
  have IA : PySem.W.InstAt h' a { cls := .ref D, dict := none, data := .fields #[.ref t1, .none, .none, .none, .bool false, .none] } D none := ⟨ho2, rfl, rfl, trivial⟩
  have hsup2 := hsup
  unfold PySem.W.ks_superIn at hsup2
  rw [hcd] at hsup2
  refine PySem.W.kxs_getMethod PySem.W.kxs_ValueError e1 (PySem.W.looks_opaque I2.kIn hopq) (l₀ := cd.mro) (fun A Q E s k q => wpAny_bind ((PySem.W.looks_clsIn I2.kIn hcd) A _ E s k (wpAny_pure q))) rfl I2.kIn hsup2 (IA.type.andThen (PySem.W.looks_subIn I2.kIn hsub)) (PySem.W.ks_ne I2.kIn IA hcd) (by decide) ?_
  have kp2 : ∀ b o, h'.get? b = some o → (h'.push (PySem.W.kxs_mw "ValueError.__init__" a)).get? b = some o := fun b o e => Heap.get?_push_of_some _ e
  have I3 : Inv X pins σ H ⟨h'.push (PySem.W.kxs_mw "ValueError.__init__" a), g, d, t + 1, os⟩ := I2.kept (t' := t + 1) kp2
  have hu3 : (h'.push (PySem.W.kxs_mw "ValueError.__init__" a)).get? h'.objs.size = some (PySem.W.kxs_mw "ValueError.__init__" a) := Heap.get?_push_size _ rfl
  refine PySem.W.kxs_callWith (i := "ValueError.__init__") (x := a) rfl (PySem.Calls.evalArgs_plain ?_)
  refine args_cons (env := X.env) (rest := []) (Calls.Constant_str (args_nil ⟨hu3, ?_⟩)) rfl
  have ho3 := kp2 _ _ ho2
  have hC3 := I3.kIn _ _ hC
  refine call_mwV hC3 ho3 hu3 (show 1 ≤ sizeLine by decide) fun h4 t4 kq hx => ?_
  have J := I3.write (t' := t + 1 + 1) (x := a) (e := a) (h' := h4) (o := exo a D none) (by rw [ea]; exact True.intro) (.inl rfl) kq ⟨_, hx⟩ (exo_ok hx)
  have eu : upd H a (exo a D none) = H := by
    funext b
    by_cases hb : b = a
    · rw [hb, upd_same, ea]
    · rw [upd_ne hb]
  rw [eu] at J
  exact wpAt_of_wpAny (k _ J)
end

theorem lookup_nd {x : Str} {v : Value} : ∀ {l : List (Str × Value)}, (l.map (·.1)).Nodup → (x, v) ∈ l → l.lookup x = some v
  | [], _, h => by simp at h
  | (y, u) :: l, nd, h => by
    rw [List.map_cons, List.nodup_cons] at nd
    rcases List.mem_cons.mp h with e | h
    · cases e
      simp [List.lookup]
    · have ne : x ≠ y := fun e => nd.1 (e ▸ List.mem_map_of_mem (f := (·.1)) h)
      have : (x == y) = false := by simpa using ne
      simp only [List.lookup, this]
      exact lookup_nd nd.2 h
theorem look_one {x : Str} {c cc : Addr} {a : Str} (h : ([(a, cc)] : List (Str × Addr)).lookup x = some c) : x = a ∧ c = cc := by
  simp only [List.lookup] at h
  split at h
  · rename_i e
    exact ⟨by simpa using e, (Option.some.inj h).symm⟩
  · cases h
section
variable {CX : CXT} {P : Program} {w : World} {K : PySem.W.Frag} {mg : Str → Option Value} {base : Heap}
/-- THE RULE for such an __init__ -/
theorem hall_fn {f D : Addr} {fd : FuncData} {name qual : Str} {params : Arguments} {rest : List Stmt} {scope : Scope} {ps : List Str} {sp : Sp} {p0 p1 p2 p3 p4 p5 : Pos} {z : Str} {kd : Nat}
    (h : HInit P K f D name qual params (supSt p0 p1 p2 p3 p4 p5 z kd :: rest) scope fd) (mgs : mg "super" = none) (hhead : ∃ ar : Arg, (params.posonlyargs ++ params.args).head? = some ar ∧ ps.head? = some ar.arg)
    (sk : scope.kind = .function) (sco : scope.isCoroutine = false) (sgen : scope.isGenerator = false) (nocell : ∀ x ∈ scope.names, x.2 ≠ .cell) (loc : ∀ x ∈ ps, scope.names.lookup x = some .local) (nd : ps.Nodup)
    (fr : ∀ x, scope.names.lookup x = some .free → x = "__class__") (frc : scope.names.lookup ("__class__" : Str) = some .free) (sg : scope.names.lookup ("super" : Str) = some .globalImplicit) (htop : (P.main.scope.names.lookup ("super" : Str)).isSome = false)
    (len : ∀ vs H Q E, sp vs H Q E → vs.length = ps.length) (slf : ∀ vs H Q E, sp vs H Q E → ∃ a tl, vs = .ref a :: tl ∧ H a = some (exo a D none))
    {pl : Sem Bool} (he : ∀ env : Env, eval (.Call (.Attribute (.Call (.Name "super" p0) [] [] p1) "__init__" p2) [.Constant (.str z) kd p3] [] p4) env = (do
      let ov ← attributeBase (.Call (.Name "super" p0) [] [] p1) "__init__" env (eval (.Call (.Name "super" p0) [] [] p1) env)
      standAt p2.atName
      let (f, first) ← holding [ov] (getMethod ov "__init__" pl)
      callWith p4 f first (backTo p4 (starEach [.Constant (.str z) kd p3] env)) [])) (hsw : ∀ env : Env, swapsWith (.Call (.Attribute (.Call (.Name "super" p0) [] [] p1) "__init__" p2) [.Constant (.str z) kd p3] [] p4) none p5.line env = pure false)
    (hb : ∀ (env : Env) (A : Around) (outer : List Env) (s : Shared) (H : Hp) (vs : List V) (Q : VK) (E : XK), env.scope = scope → sp vs H Q E → ∃ t, PSs (cxH CX P w K mg base ps env A outer s H E) rest t ∧ t { nx := fun _ H' => Q .non H', rt := Q } (L2.start ps vs) H) :
    FnOk P w K mg base CX 1 f fd ps sp := ⟨len, fun A outer s H args us vs Q E room e0 bind vals prom => by
  obtain ⟨oc, od, an, osl, dV, kV, doc, pm, ct, cda, cc, ccl, cl, cdd, cld, ccs, csl, fvs, file, tf, rfl, there, code, hcodel, hvs, hfile, hcell⟩ := h.fn
  obtain ⟨ar, ha1, ha2⟩ := hhead
  obtain ⟨a, tl', rfl, ea⟩ := slf _ _ _ _ prom
  have stands : K.In s.heap := e0.mod.kin.keeps fun a o e => (e0.bs a o e).1
  have free : s.heap.NoLimit := e0.mod.nolimit.keeps fun a o e => (e0.bs a o e).1
  have size := len _ _ _ _ prom
  have hul : us.length = ps.length := by rw [← vals.length]; exact size
  refine PySem.ks_codeAny_call_defAt (fd := PySem.W.fnX name qual params (supSt p0 p1 p2 p3 p4 p5 z kd :: rest) scope [("__class__", cc)] dV kV doc pm an (.ref cda) ct) room.depth (stands _ _ there) rfl free (PySem.W.codeRec_of stands code) rfl bind nocell (fun x hx => loc _ (List.of_mem_zip hx).1) (fun h₀ ns keep => ?_) sco sgen sk
  generalize henv : callEnv (PySem.W.fnX name qual params (supSt p0 p1 p2 p3 p4 p5 z kd :: rest) scope [("__class__", cc)] dV kV doc pm an (.ref cda) ct) s.heap.objs.size f = env
  have env1 : env.scope = scope := by rw [← henv]; rfl
  have env2 : env.cells = [(("__class__" : Str), cc)] := by rw [← henv]; rfl
  have env3 : env.locals = s.heap.objs.size := by rw [← henv]; rfl
  have env4 : env.globals = mainGlobals ∧ env.builtins = builtinsNs := by rw [← henv]; exact ⟨rfl, rfl⟩
  have env5 : env.func = some f ∧ env.code = .ref cda ∧ env.frame = some s.heap.objs.size := by rw [← henv]; exact ⟨rfl, rfl, rfl⟩
  have mapfst : ((ps.zip us).reverse.map (·.1)).Nodup := by
    rw [List.map_reverse, List.map_fst_zip (Nat.le_of_eq hul.symm)]
    exact List.pairwise_reverse.mpr (nd.imp Ne.symm)
  have at_ : ∀ (i : Nat) (y : Str) (u : Value), ps[i]? = some y → us[i]? = some u → (ps.zip us).reverse.lookup y = some u := fun i y u h1 h2 => lookup_nd mapfst (List.mem_reverse.mpr (List.mem_of_getElem? (i := i) (by rw [List.getElem?_zip_eq_some]; exact ⟨h1, h2⟩)))
  have I : Inv (cxH CX P w K mg base ps env A outer s H E) [] (L2.start ps (.ref a :: tl')) H { s with heap := h₀, toks := s.toks + (ps.zip us).length } := by
    refine ⟨⟨e0.mod, by show env.scope.kind = _; rw [env1, sk], env4.1, env4.2, by show _ ≤ env.locals; rw [env3]; exact Nat.le_refl _, fun x y c h1 h2 => ?_, fun y hy => ?_, fun y c z _ => absurd (show false = true from z) Bool.false_ne_true, fun _ => room.hd, Around.frames_deeper e0.frames, .inr ⟨rfl, by show env.frame = some env.locals; rw [env3]; exact env5.2.2⟩, fun b z => absurd (show b ∈ ([] : List Addr) from z) (by simp), e0.bs, e0.bsz, fun b _ _ => (by show b ∉ ([] : List Addr); simp), fun b z => absurd (show b ∈ ([] : List Addr) from z) (by simp), e0.funs, e0.frf⟩,
      rfl, e0.bare, Un.kept keep, ⟨_, by show h₀.Ns env.locals _; rw [env3]; exact ns, fun i y v h1 h2 h3 => ?_⟩, fun y c h => ?_, by show H env.locals = none; rw [env3]; exact e0.hok.fresh (Nat.le_refl _), fun y c h => ?_, fun p hp => absurd (show p ∈ ([] : List (Addr × Obj)) from hp) (by simp), e0.hok.kept keep, ?_⟩
    · have h1 : env.cells.lookup x = some c := h1
      have h2 : env.cells.lookup y = some c := h2
      rw [env2] at h1 h2
      rw [(look_one h1).1, (look_one h2).1]
    · have hy : env.scope.names.lookup y = some .cell ∨ env.scope.names.lookup y = some .free := hy
      rw [env1] at hy
      rcases hy with hy | hy
      · exact absurd rfl (nocell _ (PySem.mem_of_lookup hy))
      · rw [fr y hy]
        refine ⟨cc, ?_⟩
        show env.cells.lookup _ = _
        rw [env2]
        simp [List.lookup]
    · have hi : i < (V.ref a :: tl').length := by
        unfold L2.start at h2
        by_cases hi : i < (V.ref a :: tl').length
        · exact hi
        · rw [List.getElem?_append_right (by simpa using hi), List.getElem?_replicate] at h2
          split at h2 <;> cases h2
      have ha : (V.ref a :: tl')[i]? = some v := by
        unfold L2.start at h2
        rw [List.getElem?_append_left (by simpa using hi), List.getElem?_map] at h2
        cases e : (V.ref a :: tl')[i]? with
        | none => rw [e] at h2; cases h2
        | some a => rw [e] at h2; cases h2; rfl
      obtain ⟨u, hu, rv⟩ := vals.get ha
      refine ⟨u, rv, .inl ⟨?_, at_ i y u h1 hu⟩⟩
      show env.scope.names.lookup y = _
      rw [env1]
      exact loc y (List.mem_of_getElem? h1)
    · have h : env.cells.lookup y = some c := h
      rw [env2] at h
      rw [(look_one h).2]
      exact ⟨_, _, keep _ _ (stands _ _ hcell), rfl⟩
    · have h : env.cells.lookup y = some c := h
      rw [env2] at h
      rw [(look_one h).2]
      exact (e0.bs _ _ (e0.mod.kin _ _ hcell)).2
    · unfold L2.start
      show _ = ps.length
      rw [List.length_append, List.length_map, List.length_replicate]
      omega
  obtain ⟨t, body', reads⟩ := hb env A outer s H _ Q E env1 prom
  obtain ⟨u0, ur, rfl⟩ : ∃ u0 ur, us = u0 :: ur := by
    cases vals with
    | cons h1 h2 => exact ⟨_, _, rfl⟩
  have hu0 : u0 = .ref a := by
    cases vals with
    | cons h1 h2 => exact h1
  subst hu0
  obtain ⟨pt, hps⟩ : ∃ pt, ps = ar.arg :: pt := by
    cases ps with
    | nil => cases ha2
    | cons x xs =>
      cases ha2
      exact ⟨xs, rfl⟩
  refine PySem.ks_wpAt_mono (sup_run (a := a) I h.cls h.sup h.sub h.selfs h.opq there ha1 hcodel hvs hfile hcell mgs env5.1 env5.2.1 (by show env.scope.names.lookup _ = _; rw [env1]; exact sg) (by show env.scope.names.lookup _ = _; rw [env1]; exact frc) (by show env.scope.names.lookup _ = _; rw [env1]; exact loc _ (by rw [hps]; exact List.mem_cons_self))
    (by show env.cells.lookup _ = _; rw [env2]; simp [List.lookup]) htop (by show h₀.Ns env.locals _; rw [env3]; exact ns) (at_ 0 _ _ (by rw [hps]; rfl) rfl) ea (he env) (by unfold interactive; show (env.scope.kind == _ && _) = false; rw [env1, sk]; rfl) (hsw env) fun s' J => body'.run [] s' _ H _ J reads) (fun flow s' out => ?_) fun _ _ out => out
  cases flow with
  | next =>
    obtain ⟨_, H', J, q⟩ := out
    exact ⟨.non, H', J.os, J.bare, J.base, J.hok, rfl, q⟩
  | ret u =>
    obtain ⟨v, _, H', J, rv, q⟩ := out
    exact ⟨v, H', J.os, J.bare, J.base, J.hok, rv, q⟩
  | brk => exact out.choose_spec.choose_spec.2.elim
  | cont => exact out.choose_spec.choose_spec.2.elim⟩
end
end Mh
namespace Mh
open PySem PySem.Spec PyProof.Rows L2 TL
theorem passF {X : Cx} : Passes (L2N.CX X.prog X.w) X E0 := fun _ _ _ _ _ _ _ c => by
  obtain ⟨_, _, _, _, _, _, _, _, _, _, _, _, z⟩ := c
  exact z.elim
/-! ### fields of an exception that is made -/
def spI1 (C : Addr) (f1 : Str) : Sp := fun vs H Q E => ∃ a v1, vs = [.ref a, v1] ∧ H a = some (exo a C none) ∧ ∀ d, H d = none → d ≠ a → Q .non (upd (upd H d (exd d [(f1, v1)])) a (exo a C (some d)))
def spI2 (C : Addr) (f1 f2 : Str) : Sp := fun vs H Q E => ∃ a v1 v2, vs = [.ref a, v1, v2] ∧ H a = some (exo a C none) ∧ ∀ d, H d = none → d ≠ a → Q .non (upd (upd (upd H d (exd d [(f1, v1)])) a (exo a C (some d))) d (exd d [(f2, v2), (f1, v1)]))
section
variable {K : PySem.W.Frag} {C : Addr} {f1 f2 : Str} {vs : List V} {H : Hp} {Q : VK} {E : XK}
theorem go_I1 {ps : List Str} (hp : ps.length = 2) (T : OexC K C) (n1 : PySem.W.findIn K (.ref C) f1 = some none) (h : spI1 C f1 vs H Q E) : tOst K f1 (tVar 0) (tVar 1) { nx := fun _ H' => Q .non H', rt := Q } (L2.start ps vs) H := by
  obtain ⟨a, v1, rfl, ha, q⟩ := h
  have e : L2.start ps [V.ref a, v1] = [some (.ref a), some v1] := by
    unfold L2.start
    rw [hp]
    rfl
  rw [e]
  exact ⟨v1, rfl, .ref a, rfl, a, C, rfl, T, n1, .inl ⟨ha, q⟩⟩
theorem go_I2 {ps : List Str} (hp : ps.length = 3) (T : OexC K C) (n1 : PySem.W.findIn K (.ref C) f1 = some none) (n2 : PySem.W.findIn K (.ref C) f2 = some none) (h : spI2 C f1 f2 vs H Q E) :
    tSeq (tOst K f1 (tVar 0) (tVar 1)) (tOst K f2 (tVar 0) (tVar 2)) { nx := fun _ H' => Q .non H', rt := Q } (L2.start ps vs) H := by
  obtain ⟨a, v1, v2, rfl, ha, q⟩ := h
  have e : L2.start ps [V.ref a, v1, v2] = [some (.ref a), some v1, some v2] := by
    unfold L2.start
    rw [hp]
    rfl
  rw [e]
  refine ⟨v1, rfl, .ref a, rfl, a, C, rfl, T, n1, .inl ⟨ha, fun d hd na => ?_⟩⟩
  exact ⟨v2, rfl, .ref a, rfl, a, C, rfl, T, n2, .inr ⟨d, _, upd_same, (by rw [upd_ne na, upd_same] : _ = some (exd d [(f1, v1)])), show 1 ≤ 900 by decide, q d hd na⟩⟩
end
/-! ### raise C(e, ..) -/
structure Rz (P : Program) (w : World) (K : PySem.W.Frag) (mg : Str → Option Value) (base : Heap) (x : Str) (C : Addr) (ps : List Str) (sp : Sp) : Prop where
  T : OexC K C
  ex : ∃ fI fd, PySem.W.findIn K (.ref C) "__init__" = some (some (.ref fI)) ∧ PySem.W.typeIn K (.ref fI) = some (.type "function") ∧ FnOk P w K mg base (L2N.CX P w) 1 fI fd ps sp ∧ Binds K fd ps []
  m : mg x = some (.ref C)
section
variable {X : Cx} {W : WX} {x : Str} {C : Addr} {f1 f2 : Str} {ps : List Str} {e : Expr} {es : List Expr} {ta : TA} {p pos pos2 : Pos}
theorem fin_eq {H1 : Hp} {a d : Addr} {u : HO} (hd : H1 d = none) (ha : H1 a = none) (na : d ≠ a) (H2 : Hp) (h2 : ∀ b, b ≠ a → b ≠ d → H2 b = H1 b) : upd (L2.del H2 a) d u = upd H1 d u := by
  funext b
  by_cases hb : b = d
  · rw [hb, upd_same, upd_same]
  · rw [upd_ne hb, upd_ne hb]
    by_cases hba : b = a
    · rw [hba, L2.del_same, ha]
    · rw [L2.del_ne hba, h2 b hba hb]
/-- C(e, ..), an exception whose context is None -/
theorem pmk_N {CXx : CXT} {fI : Addr} {k : Nat} {fd : FuncData} {sp : Sp} (T : OexC X.K C) (iC : PySem.W.findIn X.K (.ref C) "__init__" = some (some (.ref fI))) (tI : PySem.W.typeIn X.K (.ref fI) = some (.type "function"))
    (F1 : FnOk X.prog X.w X.K X.mg X.base CXx k fI fd ps sp) (hr : Room (k + 1) X.A) (hb : Binds X.K fd ps []) (hx : Passes CXx X (fun _ _ _ => False)) (gl : Gl X x) (hm : X.mg x = some (.ref C)) (ha : PA X (e :: es) ta)
    (hdb : (x == ("__debug__" : Str)) = false) (he : starEach (e :: es) X.env = (false, eval e X.env) :: starEach es X.env) (hpl : (backTo pos (starEach es X.env)).any (·.1) = false) :
    L2N.PMk X (.Call (.Name x p) (e :: es) [] pos) (tMkO C sp [] ta) := fun pins s σ H Q I h => by
  obtain ⟨nm, q, N, bs, bm, sn, sub, ab, col, dd, k0, k1, k2, k3, k5, hC, hbm⟩ := T.cls
  refine wpAny_Call_Name_kw (ld_glob I gl hm (PySem.W.callWith_K (h₀ := X.base) I.ok.mod.kin T.kC (thn (ha.run pos pins s σ H _ I h) fun us s1 hq => ?_) he hpl) hdb)
  obtain ⟨vs, H1, I1, r1, hz, q1⟩ := hq
  refine ⟨I1.kIn, ?_⟩
  show wpAny _ _ (call (.ref C) us) _ _ _
  obtain ⟨hp, g, dr, tk, os⟩ := s1
  generalize hA : hp.objs.size + 1 = a
  have hle : hp.objs.size ≤ a := by rw [← hA]; exact Nat.le_succ _
  have kk : ∀ b o, hp.get? b = some o → ((hp.push (PySem.W.kdv_tup us)).push (PySem.HandSPX.excO C hp.objs.size)).get? b = some o := fun b o z => Heap.get?_push_of_some _ (Heap.get?_push_of_some _ z)
  have hget : ((hp.push (PySem.W.kdv_tup us)).push (PySem.HandSPX.excO C hp.objs.size)).get? a = some (PySem.HandSPX.excO C hp.objs.size) := by
    rw [← hA]
    heap_get
  have hq := q1 a (I1.hok.fresh hle)
  rw [List.append_nil] at hq
  have I2 : Inv X pins σ (upd H1 a (exo a C none)) ⟨(hp.push (PySem.W.kdv_tup us)).push (PySem.HandSPX.excO C hp.objs.size), g, dr, tk, os⟩ :=
    I1.laid (t' := tk) (h' := (hp.push (PySem.W.kdv_tup us)).push (PySem.HandSPX.excO C hp.objs.size)) kk hle (exo_ok hget)
  have r2 : Vals (V.ref a :: vs) (Value.ref a :: us) := .cons rfl r1
  have b2 := hb _ (Value.ref a :: us) I2.kIn (by rw [List.append_nil, ← r2.length, F1.len _ _ _ _ hq])
  rw [List.append_nil] at b2
  have hus : us.length ≤ sizeLine := by
    rw [← Paired.length r1, sizeLine_eq]
    omega
  refine wpAny_call (PySem.HandSPX.call_own F.excBase_ValueError (fun Y => PySem.HandSPX.refsVE_contains Y bm hbm) (I1.kIn _ _ hC) (PySem.W.looks_findIn I1.kIn iC) (fun self => PySem.W.bind_fn I1.kIn self tI) hus ?_)
  rw [hA]
  refine codeAny_mono (F1.run _ X.stack _ _ ⟨Value.ref a :: us, []⟩ _ _ _ (fun _ _ _ => False) (hr.make C us []) (I2.env0.make C us []) b2 r2 hq) fun r s' back => ?_
  cases r with
  | error er => exact hx pins σ _ _ er s' I2 back
  | ok fl =>
    cases fl with
    | next => exact back.elim
    | brk => exact back.elim
    | cont => exact back.elim
    | ret u =>
      obtain ⟨v, H2, os2, bare2, un2, hok2, rv, ev, d, fs, ea, ed, hd1, q2⟩ := back
      subst ev
      obtain ⟨h2, g2, d2, t2, os'⟩ := s'
      obtain ⟨t0, G, J, kG, ge, hoe, na⟩ := mk_end0 (d2 := d2) (t2 := t2) I1 hle kk un2 hok2 os2 bare2 ea ed hd1
      exact ⟨rv, a, _, _, ⟨G, g2, d2, t2, os'⟩, _, .ref C, some d, rfl, J, kG, ge, hoe, ⟨rfl, rfl, fun vs hv => by cases hv; rfl⟩, rfl, rfl, na, rfl, bare2, raises_own T.exC T.tyC, q2⟩
theorem ps_rz {sp : Sp} (R : Rz X.prog X.w X.K X.mg X.base x C ps sp) (hr : Room 2 X.A) (hc : X.calm = true) (tk : L2N.Takes X W) (gl : Gl X x) (ha : PA X (e :: es) ta) (hdb : (x == ("__debug__" : Str)) = false := by decide)
    (he : starEach (e :: es) X.env = (false, eval e X.env) :: starEach es X.env := by rfl) (hpl : (backTo pos (starEach es X.env)).any (·.1) = false := by rfl) :
    PS X (.Raise (some (.Call (.Name x p) (e :: es) [] pos)) none pos2) (fun _ σ H => tMkO C sp [] ta σ H fun cls d H' => W cls d σ H') := by
  obtain ⟨fI, fd, iC, tI, F1, b⟩ := R.ex
  exact L2N.ps_raise hc tk (pmk_N (p := p) (pos := pos) R.T iC tI F1 hr b passF gl R.m ha hdb he hpl)
end
section
variable {C : Ct} {ρ : List Kd} {ta : TA} {D : Addr} {f1 f2 : Str} {d1 d2 : PyData} {P : Po} {σ : L2.St} {H H' H1 : Hp} {v : V} {d : PyData}
/-- data without lists stands in what a caller sees -/
theorem fsh_nl (n : nl d = true) (ok : C.Ok) (h : Dp C.K (msk C ρ H) v d) : Dp C.K (fsh C.H0 C.F H) v d := Dp.tx (fun a xs q => by
  rcases q with q | ⟨o, q⟩
  · obtain ⟨h1, h2, h3, _⟩ := msk_of q
    exact .inl (fsh_mk h1 h3 fun z => by
      rw [h1] at z
      exact z.2)
  · obtain ⟨h1, h2, h3, _⟩ := msk_of q
    exact .inr ⟨o, fsh_mk h1 h3 fun z => by
      rw [h1] at z
      exact z.2⟩) n h
theorem b_rz2 (h : A1 C ta ρ [.dat d1, .dat d2]) (n1 : nl d1 = true) (n2 : nl d2 = true) (z : C.Z (.ref D) [(f2, d2), (f1, d1)]) : BS C (fun _ σ H => tMkO D (spI2 D f1 f2) [] ta σ H fun cls d H' => C.E cls d H') ρ P := fun σ H r _ _ => h σ H r _ fun ks vs H1 s1 r1 o1 => by
  subst s1
  obtain ⟨v1, v2, rfl, o1, o2⟩ := o1.two
  refine ⟨show 2 ≤ 1000 by decide, fun a ha => ⟨a, v1, v2, rfl, upd_same, fun d hd na => ⟨rfl, d, [(f2, v2), (f1, v1)], ?_, upd_same, ?_, ?_⟩⟩⟩
  · rw [upd_ne (Ne.symm na), upd_same]
  · rw [upd_ne na] at hd
    exact hd
  have hd1 : H1 d = none := by
    rw [upd_ne na] at hd
    exact hd
  rw [fin_eq hd1 ha na _ fun b hba hbd => by rw [upd_ne hbd, upd_ne hba, upd_ne hbd, upd_ne hba]]
  have rp := r.up r1
  have q := R.new (o := .xd [(f2, v2), (f1, v1)]) rp.ok rp.j hd1
  have r2 := rp.up q
  have m := msk_up (ρ := ρ) q
  refine rp.ok.hE _ _ d _ _ z ⟨r2.j, r2.old⟩ (rp.h0 hd1) upd_same ⟨rfl, ?_, rfl, ?_, trivial⟩
  · exact fsh_nl n2 rp.ok (Dp.ex m o2)
  · exact fsh_nl n1 rp.ok (Dp.ex m o1)
theorem b_rz1 (h : A1 C ta ρ [.dat d1]) (n1 : nl d1 = true) (z : C.Z (.ref D) [(f1, d1)]) : BS C (fun _ σ H => tMkO D (spI1 D f1) [] ta σ H fun cls d H' => C.E cls d H') ρ P := fun σ H r _ _ => h σ H r _ fun ks vs H1 s1 r1 o1 => by
  subst s1
  obtain ⟨v1, rfl, q1⟩ := o1.one
  refine ⟨show 1 ≤ 1000 by decide, fun a ha => ⟨a, v1, rfl, upd_same, fun d hd na => ⟨rfl, d, [(f1, v1)], upd_same, ?_, ?_, ?_⟩⟩⟩
  · rw [upd_ne na, upd_same]
  · rw [upd_ne na] at hd
    exact hd
  have hd1 : H1 d = none := by
    rw [upd_ne na] at hd
    exact hd
  rw [fin_eq hd1 ha na _ fun b hba hbd => by rw [upd_ne hba, upd_ne hbd, upd_ne hba]]
  have rp := r.up r1
  have q := R.new (o := .xd [(f1, v1)]) rp.ok rp.j hd1
  have r2 := rp.up q
  have m := msk_up (ρ := ρ) q
  refine rp.ok.hE _ _ d _ _ z ⟨r2.j, r2.old⟩ (rp.h0 hd1) upd_same ⟨rfl, ?_, trivial⟩
  exact fsh_nl n1 rp.ok (Dp.ex m q1)

/-! ### a def that may raise, called -/
theorem FsOk.ex {K : PySem.W.Frag} {M M' : Hp} (e : Ext M M') : ∀ {fv : List (Str × V)} {fs : List (Str × PyData)}, FsOk K M fv fs → FsOk K M' fv fs
  | [], [], _ => trivial
  | (_, _) :: _, (_, _) :: _, ⟨h1, h2, h3⟩ => ⟨h1, Dp.ex e h2, FsOk.ex e h3⟩
  | [], _ :: _, h => h.elim
  | _ :: _, [], h => h.elim
theorem call_R {fr : Bool} {F : Addr → Prop} {J : Hp → Prop} {E : XK} {Z : Zt} (rp : Rep C σ H1 ρ) (w : SubW C F J) (q : R ⟨C.K, F, J, H1, fr, [], E, Z⟩ H1 H') : R C H1 H' := by
  obtain ⟨j, kp⟩ := q
  have kp : ∀ a o, H1 a = some o → ¬ F a → H' a = some o := kp
  rcases w with ⟨rfl, rfl⟩ | ⟨rfl, rfl⟩
  · exact ⟨j, kp⟩
  · refine ⟨rp.ok.st _ _ rp.j fun a f => ?_, fun a o h _ => kp a o h id⟩
    obtain ⟨xs, e⟩ := rp.ok.ls _ _ rp.j f
    rw [e, kp a _ e id]
theorem fsh_call {F : Addr → Prop} (rp : Rep C σ H1 ρ) (r1 : R C H1 H') : Ext (fsh H1 F H') (fsh C.H0 C.F H') := fun a o q => by
  obtain ⟨h1, h2, h3⟩ := fsh_of q
  refine fsh_mk h1 (fun f => ?_) fun z => h3 ⟨?_, z.2⟩
  · obtain ⟨ws, g2⟩ := rp.ok.ls _ _ r1.1 f
    obtain ⟨ws1, g1⟩ := rp.ok.ls _ _ rp.j f
    exact h3 ⟨by rw [g1]; exact Option.some_ne_none _, by rw [g2]; trivial⟩
  · intro n
    exact z.1 (rp.h0 n)
theorem e_callZ {sp : Sp} {F : Addr → Prop} {J : Hp → Prop} {fr : Bool} {A : At} {PA : List Kd → Prop} {S : Kd → Prop} (ha : EA C ta ρ PA) (w : SubW C F J) (hm : ∀ vs H Q, SpF C.K F J fr A vs H Q C.E → sp vs H Q C.E)
    (hA : ∀ ks, PA ks → ∃ ks' S' Z', ArgsK fr ks ks' ∧ A ks' S' Z' ∧ (∀ cls fs, Z' cls fs → C.Z cls fs) ∧ ∀ k, S' k → S k) : EB C (tCall sp [] C.E ta) ρ S := fun σ H rp Q q => ha σ H rp _ fun ks vs H1 s1 r1 o1 => by
  obtain ⟨ks', S', Z', h1, h2, hz, h3⟩ := hA ks s1
  have no := args_own h1
  have rp1 := rp.up r1
  obtain ⟨g1, g2⟩ := args_ok (E := C.E) (Z := Z') (ρ' := ks') rp r1 w no o1 h1
  refine hm _ _ _ ⟨ks', S', Z', h2, ⟨⟨fun H H' j a => ?_, fun H a j f => ?_, ?_, fun cls fs d H' fv z rr h0 hx fo => ?_⟩, ?_, fun a o h _ => h, by rw [List.length_map, List.append_nil]; exact g1, fun a b l ds es ha => (no l ⟨a, ds, ha⟩).elim, fun l o => (no l o).elim, by rw [List.append_nil]; exact g2, fun p hp => by cases hp⟩, fun k v H' s2 ro => ?_⟩
  · rcases w with ⟨rfl, rfl⟩ | ⟨rfl, rfl⟩
    · exact rp.ok.st H H' j a
    · trivial
  · rcases w with ⟨rfl, rfl⟩ | ⟨rfl, rfl⟩
    · exact rp.ok.ls H a j f
    · exact False.elim f
  · rcases w with ⟨rfl, rfl⟩ | ⟨rfl, rfl⟩
    · exact rp1.j
    · trivial
  · have r2 := call_R rp1 w rr
    have rp2 := rp1.up r2
    exact rp.ok.hE cls fs d H' fv (hz _ _ z) ⟨rp2.j, rp2.old⟩ (rp1.h0 h0) hx (FsOk.ex (fsh_call rp1 r2) fo)
  · rcases w with ⟨rfl, rfl⟩ | ⟨rfl, rfl⟩
    · exact rp1.j
    · trivial
  · obtain ⟨r2, o2⟩ := call_back rp1 w ro
    exact q k v H' (h3 k s2) (r1.trans r2) (o2.back rp.ok r1)
/-- a pure def that may raise, called in a def that may raise just so -/
theorem e_callPZ {A : At} {ks ks' : List Kd} {S' S : Kd → Prop} {Z' : Zt} (ha : A1 C ta ρ ks) (hk : ArgsK false ks ks') (hA : A ks' S' Z') (hz : ∀ cls fs, Z' cls fs → C.Z cls fs) (hS : ∀ k, S' k → S k) : EB C (tCall (SpP C.K A) [] C.E ta) ρ S :=
  e_callZ ha (.inr ⟨rfl, rfl⟩) (fun _ _ _ h => h) fun ks2 e => by
    subst e
    exact ⟨ks', S', Z', hk, hA, hz, hS⟩
end
end Mh
namespace Mh
open PySem PySem.Spec PyProof.Rows L2 TL
/-! ### value texts read, of any text: InvalidText with a place where it does not read -/
def badZ (D : Addr) (z : Str) : Zt := fun cls fs => cls = .ref D ∧ ∃ q : Nat, q ≤ z.length ∧ fs = [(("at" : Str), PyData.int (q : Int)), (("text" : Str), PyData.str z)]
def tRz (D : Addr) (ta : TA) (E : XK) : TS := fun _ σ H => tMkO D (spI2 D "text" "at") [] ta σ H fun cls d H' => E cls d H'
def A_strX (D : Addr) : At := fun ks S Z => ∃ (z : Str) (p : Nat), ks = [.dat (.str z), .dat (.int p)] ∧ p ≤ z.length ∧ z.length ≤ sizeLine ∧
  S = (fun k => ∃ w r, (tl z).drop p = w ++ 34 :: r ∧ w.all ltr = true ∧ k = .dat (.tuple [.str ⟨w.toArray⟩, .int ((p + w.length + 1 : Nat) : Int)])) ∧
  Z = (fun cls fs => (¬ ∃ w r, (tl z).drop p = w ++ 34 :: r ∧ w.all ltr = true) ∧ badZ D z cls fs)
def sp_string_atX (K : PySem.W.Frag) (D : Addr) : Sp := SpP K (A_strX D)
def A_numX (D : Addr) : At := fun ks S Z => ∃ (z : Str) (p : Nat), ks = [.dat (.str z), .dat (.int p)] ∧ p ≤ z.length ∧ z.length ≤ sizeLine ∧
  S = (fun k => ∃ n r, (tl z).drop p = numL n ++ r ∧ n < 10 ^ 40 ∧ (∀ c, r.head? = some c → fig c = false) ∧ k = .dat (.tuple [.int (n : Int), .int ((p + (numL n).length : Nat) : Int)])) ∧
  Z = (fun cls fs => (¬ ∃ n r, (tl z).drop p = numL n ++ r ∧ n < 10 ^ 40 ∧ (∀ c, r.head? = some c → fig c = false)) ∧ badZ D z cls fs)
def sp_number_atX (K : PySem.W.Frag) (D : Addr) : Sp := SpP K (A_numX D)
def A_atomX (D : Addr) : At := fun ks S Z => ∃ (z : Str) (p : Nat), ks = [.dat (.str z), .dat (.int p)] ∧ p ≤ z.length ∧ z.length ≤ sizeLine ∧
  S = (fun k => ∃ v r, Atm ((tl z).drop p) v r ∧ k = .dat (.tuple [v, .int ((z.length - r.length : Nat) : Int)])) ∧
  Z = (fun cls fs => (¬ ∃ v r, Atm ((tl z).drop p) v r) ∧ badZ D z cls fs)
def sp_atom_atX (K : PySem.W.Frag) (D : Addr) : Sp := SpP K (A_atomX D)
def A_valX (D : Addr) : At := fun ks S Z => ∃ z : Str, ks = [.dat (.str z)] ∧ z.length < sizeLine ∧
  S = (fun k => ∃ d, Par [] (tl z) d ∧ k = .dat d) ∧ Z = (fun cls fs => (¬ ∃ d, Par [] (tl z) d) ∧ badZ D z cls fs)
def sp_value_ofX (K : PySem.W.Frag) (D : Addr) : Sp := SpP K (A_valX D)
def sp_untoldX (K : PySem.W.Frag) (D : Addr) : Sp := SpP K (A_valX D)
def t_string_atX (K : PySem.W.Frag) (D : Addr) (E : XK) : TS := (tSeq (tAsg (tVar 1) (gName 2))
  (tSeq (tWhile (tTru K (tCall (sp_is_letter K) [] E0 (tCons (tSl (rSlP K) (tVar 0) (tPart (tVar 2)) (tPart (tOp (rAddP K) (tVar 2) (tC (.int 1))))) tNil))) (tAug 2 (tC (.int 1)) (ipI fun i j => i + j)))
  (tSeq (tIfS (tTest (tOp (rNeP K) (tSl (rSlP K) (tVar 0) (tPart (tVar 2)) (tPart (tOp (rAddP K) (tVar 2) (tC (.int 1))))) (tC (.str "\"")))) (tRz D (tCons (tVar 0) (tCons (tVar 2) tNil)) E) tNext)
  (tRet (tTup (tCons (tSl (rSlP K) (tVar 0) (tPart (tVar 1)) (tPart (tVar 2))) (tCons (tOp (rAddP K) (tVar 2) (tC (.int 1))) tNil)))))))
def t_number_atX (K : PySem.W.Frag) (D : Addr) (E : XK) : TS := (tSeq (tAsg (tCall (sp_figures_end K) [] E0 (tCons (tVar 0) (tCons (tVar 1) tNil))) (gName 2))
  (tSeq (tAsg (tCall (sp_number_of K) [] E0 (tCons (tSl (rSlP K) (tVar 0) (tPart (tVar 1)) (tPart (tVar 2))) (tCons (tC (.int 40)) tNil))) (gName 3))
  (tSeq (tIfS (tTest (tOp rIsN (tVar 3) (tC .non))) (tRz D (tCons (tVar 0) (tCons (tVar 1) tNil)) E) tNext)
  (tRet (tTup (tCons (tVar 3) (tCons (tVar 2) tNil)))))))
def t_atom_atX (K : PySem.W.Frag) (D : Addr) (E : XK) : TS := (tSeq (tAsg (tSl (rSlP K) (tVar 0) (tPart (tVar 1)) (tPart (tOp (rAddP K) (tVar 1) (tC (.int 1))))) (gName 2))
  (tSeq (tIfS (tTest (tOp (rEqP K) (tVar 2) (tC (.str "-")))) (tRet (tTup (tCons (tC .non) (tCons (tOp (rAddP K) (tVar 1) (tC (.int 1))) tNil)))) tNext)
  (tSeq (tIfS (tTest (tOp (rEqP K) (tVar 2) (tC (.str "\"")))) (tRet (tCall (sp_string_atX K D) [] E (tCons (tVar 0) (tCons (tOp (rAddP K) (tVar 1) (tC (.int 1))) tNil)))) tNext)
  (tSeq (tIfS (tTru K (tCall (sp_is_figure K) [] E0 (tCons (tVar 2) tNil))) (tRet (tCall (sp_number_atX K D) [] E (tCons (tVar 0) (tCons (tVar 1) tNil)))) tNext)
  (tRz D (tCons (tVar 0) (tCons (tVar 1) tNil)) E)))))
section
variable {K : PySem.W.Frag} {D : Addr} {vs : List V} {H : Hp} {Q : VK} {E : XK}
theorem sp_bodyE {t : XK → TS} {F : Addr → Prop} {J : Hp → Prop} {fr : Bool} {A : At} {N : List Str}
    (h : ∀ H ks S Z, A ks S Z → ∀ n, ks.length + n = N.length ∨ N.length ≤ ks.length → BS ⟨K, F, J, H, fr, [], E, Z⟩ (t E) (ks ++ List.replicate (N.length - ks.length) .un) { rt := S, nx := fun _ => S (.dat .none) }) (q : SpF K F J fr A vs H Q E) :
    t E { nx := fun _ H' => Q .non H', rt := Q } (L2.start N vs) H := by
  obtain ⟨ks, S, Z, a, r, f⟩ := q
  have hl : vs.length = ks.length := by
    have := r.len
    rw [List.length_map] at this
    exact this
  have r2 := r.more (N.length - ks.length)
  have e : L2.start N vs = vs.map some ++ List.replicate (N.length - ks.length) none := by
    unfold L2.start
    rw [hl]
  rw [e]
  refine h H ks S Z a (N.length - ks.length) (by omega) _ H r2 _ ⟨fun ρ σ H' z r' => ?_, fun k v H' z r' => f k v H' z r', fun _ _ _ z => False.elim z, fun _ _ _ z => False.elim z⟩
  exact f _ _ _ z ⟨⟨r'.j, r'.old⟩, .non⟩
theorem go_string_atX (h : sp_string_atX K D vs H Q E) : t_string_atX K D E { nx := fun _ H' => Q .non H', rt := Q } (L2.start ["text", "at", "end"] vs) H := by
  refine sp_bodyE (t := t_string_atX K D) ?_ h
  rintro H ks S Z ⟨z, p, rfl, hp, hz, rfl, rfl⟩ n _
  change BS _ _ [.dat (.str z), .dat (.int p), .un] _
  generalize hZ : (fun (cls : Value) (fs : List (Str × PyData)) => (¬ ∃ w r, (tl z).drop p = w ++ 34 :: r ∧ w.all ltr = true) ∧ badZ D z cls fs) = Z
  have hle := tw_len (p := ltr) hp
  have hsi := str_iff ((tl z).drop p)
  have hgt : ((tl z).drop p)[(tw ltr z p).length]? = (tl z)[p + (tw ltr z p).length]? := by rw [List.getElem?_drop]
  refine b_signs (C := ⟨K, noF, noJ, H, false, [], E, Z⟩) rfl hz hp ?_
  have t1 : T1 ⟨K, noF, noJ, H, false, [], E, Z⟩ (tTest (tOp (rNeP K) (tSl (rSlP K) (tVar 0) (tPart (tVar 2)) (tPart (tOp (rAddP K) (tVar 2) (tC (.int 1))))) (tC (.str "\"")))) [.dat (.str z), .dat (.int (p : Int)), .dat (.int ((p + (tw ltr z p).length : Nat) : Int))] (!decide ((tl z)[p + (tw ltr z p).length]? = some 34)) :=
    t_test ((e_op1 (C := ⟨K, noF, noJ, H, false, [], E, Z⟩) (e_sign (p := p + (tw ltr z p).length) rfl rfl hz) e_str k_ne_s).is (by rw [sgeq _ quo]))
  refine q_when t1 (fun hb => ?_) (fun hb => ?_)
  · have hb2 : (tl z)[p + (tw ltr z p).length]? ≠ some 34 := by simpa using hb.symm
    refine b_rz2 (C := ⟨K, noF, noJ, H, false, [], E, Z⟩) (a_cons (e_var rfl) (a_cons (e_var rfl) a_nil)) rfl rfl ?_
    rw [← hZ]
    refine ⟨fun h => hb2 ?_, rfl, p + (tw ltr z p).length, hle, rfl⟩
    rw [← hgt]
    exact hsi.mp h
  · have hb2 : (tl z)[p + (tw ltr z p).length]? = some 34 := by simpa using hb.symm
    obtain ⟨w, r, hd, hw⟩ := hsi.mpr (by rw [← hb2, ← hgt]; rfl)
    have htw : tw ltr z p = w := by
      unfold tw
      rw [hd]
      exact tw_stop hw rfl
    have hlen := len_drop hd hp
    rw [List.length_cons] at hlen
    rw [htw]
    refine b_ret ((e_tup (C := ⟨K, noF, noJ, H, false, [], E, Z⟩) (a_cons (e_slS (C := ⟨K, noF, noJ, H, false, [], E, Z⟩) (e_var rfl) (o_some (e_var rfl)) (o_some (e_var rfl)) hz) (a_cons (e_op1 (C := ⟨K, noF, noJ, H, false, [], E, Z⟩) (e_var rfl) e_int k_add_i) a_nil)) rfl).is ?_) rfl ⟨w, r, hd, hw, rfl⟩
    rw [cut_sub (Nat.le_add_right _ _) (by omega), hd, Nat.add_sub_cancel_left, List.take_left]
    rfl
theorem go_number_atX (h : sp_number_atX K D vs H Q E) : t_number_atX K D E { nx := fun _ H' => Q .non H', rt := Q } (L2.start ["text", "at", "end", "number"] vs) H := by
  refine sp_bodyE (t := t_number_atX K D) ?_ h
  rintro H ks S Z ⟨z, p, rfl, hp, hz, rfl, rfl⟩ n _
  change BS _ _ [.dat (.str z), .dat (.int p), .un, .un] _
  generalize hZ : (fun (cls : Value) (fs : List (Str × PyData)) => (¬ ∃ n r, (tl z).drop p = numL n ++ r ∧ n < 10 ^ 40 ∧ (∀ c, r.head? = some c → fig c = false)) ∧ badZ D z cls fs) = Z
  have hle := tw_len (p := fig) hp
  have hni := num_iff ((tl z).drop p)
  refine q_asg (C := ⟨K, noF, noJ, H, false, [], E, Z⟩) (e_callP (C := ⟨K, noF, noJ, H, false, [], E, Z⟩) (ks' := [.dat (.str z), .dat (.int p)]) (a_cons (e_var rfl) (a_cons (e_var rfl) a_nil)) (.cons (.dat fun h => by cases h) (.cons (.dat fun h => by cases h) .nil)) ⟨z, p, rfl, hp, hz, rfl, rfl⟩ fun k h => h) ?_
  have cut : cutS z (some (p : Int)) (some ((p + (tw fig z p).length : Nat) : Int)) = ⟨(((tl z).drop p).takeWhile fig).toArray⟩ := by
    rw [cut_sub (Nat.le_add_right _ _) hle, Nat.add_sub_cancel_left]
    exact congrArg (fun l : List Nat => (⟨l.toArray⟩ : Str)) (take_tw _)
  have hcl : (⟨(((tl z).drop p).takeWhile fig).toArray⟩ : Str).length ≤ sizeLine := by
    rw [len_tl]
    exact Nat.le_trans (show (tw fig z p).length ≤ z.length by omega) hz
  have e2 : E1 ⟨K, noF, noJ, H, false, [], E, Z⟩ (tCall (sp_number_of K) [] E0 (tCons (tSl (rSlP K) (tVar 0) (tPart (tVar 1)) (tPart (tVar 2))) (tCons (tC (.int 40)) tNil))) [.dat (.str z), .dat (.int p), .dat (.int ((p + (tw fig z p).length : Nat) : Int)), .un] (.dat (nmv ((tl z).drop p))) := by
    have e1 := e_slS (C := ⟨K, noF, noJ, H, false, [], E, Z⟩) (ρ := [.dat (.str z), .dat (.int p), .dat (.int ((p + (tw fig z p).length : Nat) : Int)), .un]) (z := z) (e_var (i := 0) rfl) (o_some (i := p) (e_var (i := 1) rfl)) (o_some (i := ((p + (tw fig z p).length : Nat) : Int)) (e_var (i := 2) rfl)) hz
    rw [cut] at e1
    exact e_callP (C := ⟨K, noF, noJ, H, false, [], E, Z⟩) (A := A_num) (S' := fun k => k = .dat (nmv ((tl z).drop p))) (ks' := [.dat (.str ⟨(((tl z).drop p).takeWhile fig).toArray⟩), .dat (.int 40)]) (a_cons e1 (a_cons e_int a_nil)) (.cons (.dat fun h => by cases h) (.cons (.dat fun h => by cases h) .nil)) ⟨_, 40, rfl, hcl, by decide, rfl, rfl⟩ fun k h => h
  refine q_asg e2 ?_
  refine q_when (T := fun b => b = isNon (nmv ((tl z).drop p))) (t_test (e_op1 (C := ⟨K, noF, noJ, H, false, [], E, Z⟩) (e_var rfl) e_non k_isN)) (fun hb => ?_) (fun hb => ?_)
  · refine b_rz2 (C := ⟨K, noF, noJ, H, false, [], E, Z⟩) (a_cons (e_var rfl) (a_cons (e_var rfl) a_nil)) rfl rfl ?_
    rw [← hZ]
    refine ⟨fun h => ?_, rfl, p, hp, rfl⟩
    have h2 := hni.mp h
    obtain ⟨n, h3, _⟩ := nmv_some h2
    rw [h3] at hb
    cases hb
  · have h2 : nmv ((tl z).drop p) ≠ .none := fun e => by
      rw [e] at hb
      cases hb
    obtain ⟨m, r, hd, hm, hr⟩ := hni.mpr h2
    have hfa : (numL m).all fig = true := List.all_eq_true.mpr fun c hc => by
      have := numL_digits m c hc
      simp [fig]
      exact this
    have htw : tw fig z p = numL m := by
      unfold tw
      rw [hd]
      exact tw_stop2 hfa hr
    have hv : nmv ((tl z).drop p) = .int (m : Int) := by rw [hd, nmv_of hm hr]
    rw [hv, htw]
    exact b_ret (e_tup (C := ⟨K, noF, noJ, H, false, [], E, Z⟩) (a_cons (e_var rfl) (a_cons (e_var rfl) a_nil)) rfl) rfl ⟨m, r, hd, hm, hr, rfl⟩
theorem atm_of {cs : List Nat} {v : PyData} {r : List Nat} (h : Atm cs v r) : (cs = 45 :: r ∧ v = .none) ∨ (∃ w, cs = 34 :: (w ++ 34 :: r) ∧ w.all ltr = true ∧ v = .str ⟨w.toArray⟩) ∨ (∃ n, cs = numL n ++ r ∧ n < 10 ^ 40 ∧ (∀ c, r.head? = some c → fig c = false) ∧ v = .int (n : Int)) := by
  cases h with
  | non => exact .inl ⟨rfl, rfl⟩
  | str hw => exact .inr (.inl ⟨_, rfl, hw, rfl⟩)
  | num hn hr => exact .inr (.inr ⟨_, rfl, hn, hr, rfl⟩)
theorem go_atom_atX (h : sp_atom_atX K D vs H Q E) : t_atom_atX K D E { nx := fun _ H' => Q .non H', rt := Q } (L2.start ["text", "at", "sign"] vs) H := by
  refine sp_bodyE (t := t_atom_atX K D) ?_ h
  rintro H ks S Z ⟨z, p, rfl, hp, hz, rfl, rfl⟩ n _
  change BS _ _ [.dat (.str z), .dat (.int p), .un] _
  generalize hZ : (fun (cls : Value) (fs : List (Str × PyData)) => (¬ ∃ v r, Atm ((tl z).drop p) v r) ∧ badZ D z cls fs) = Z
  refine q_asg (e_sign (C := ⟨K, noF, noJ, H, false, [], E, Z⟩) (p := p) rfl rfl hz) ?_
  have tq : ∀ (x : Str) (d : Nat), tl x = [d] → T1 ⟨K, noF, noJ, H, false, [], E, Z⟩ (tTest (tOp (rEqP K) (tVar 2) (tC (.str x)))) [.dat (.str z), .dat (.int p), .dat (.str (sg (tl z)[p]?))] (decide ((tl z)[p]? = some d)) := fun x d hx =>
    t_test ((e_op1 (C := ⟨K, noF, noJ, H, false, [], E, Z⟩) (e_var rfl) e_str k_eq_s).is (by rw [sgeq _ hx]))
  have front : ∀ c, (tl z)[p]? = some c → ∃ r, (tl z).drop p = c :: r ∧ (tl z).drop (p + 1) = r ∧ p < z.length := fun c hc => by
    obtain ⟨hl, hv⟩ := List.getElem?_eq_some_iff.mp hc
    exact ⟨(tl z).drop (p + 1), by rw [List.drop_eq_getElem_cons hl, hv], rfl, by rw [len_tl]; exact hl⟩
  refine q_when (tq "-" 45 minus) (fun hb => ?_) (fun hb1 => ?_)
  · obtain ⟨r, h1, h2, h3⟩ := front 45 (of_decide_eq_true hb.symm)
    have hlen := len_drop (w := [45]) (r := r) h1 hp
    simp at hlen
    refine b_ret (d := .tuple [.none, .int ((z.length - r.length : Nat) : Int)]) ((e_tup (C := ⟨K, noF, noJ, H, false, [], E, Z⟩) (a_cons e_non (a_cons (e_op1 (C := ⟨K, noF, noJ, H, false, [], E, Z⟩) (e_var rfl) e_int k_add_i) a_nil)) rfl).is ?_) rfl ⟨.none, r, by rw [h1]; exact .non, rfl⟩
    rw [show ((z.length - r.length : Nat) : Int) = (p : Int) + 1 by omega]
  have n45 := of_decide_eq_false hb1.symm
  refine q_when (tq "\"" 34 quo) (fun hb => ?_) (fun hb2 => ?_)
  · obtain ⟨r, h1, h2, h3⟩ := front 34 (of_decide_eq_true hb.symm)
    refine b_retS (e_callPZ (C := ⟨K, noF, noJ, H, false, [], E, Z⟩) (A := A_strX D) (ks' := [.dat (.str z), .dat (.int ((p + 1 : Nat) : Int))]) (S := fun k => ∃ w r, (tl z).drop (p + 1) = w ++ 34 :: r ∧ w.all ltr = true ∧ k = .dat (.tuple [.str ⟨w.toArray⟩, .int ((p + 1 + w.length + 1 : Nat) : Int)])) (a_cons (e_var rfl) (a_cons (e_op1 (C := ⟨K, noF, noJ, H, false, [], E, Z⟩) (e_var rfl) e_int k_add_i) a_nil)) (.cons (.dat fun h => by cases h) (.cons (.dat fun h => by cases h) .nil)) ⟨z, p + 1, rfl, h3, hz, rfl, rfl⟩ ?_ fun k h => h) ?_
    · rintro cls fs ⟨g1, g2⟩
      show Z cls fs
      rw [← hZ]
      refine ⟨?_, g2⟩
      rintro ⟨v, r', a⟩
      rcases atm_of a with ⟨e, _⟩ | ⟨w, e, hw, _⟩ | ⟨m, e, _, _, _⟩
      · rw [h1] at e
        injection e with e _
        cases e
      · rw [h1] at e
        injection e with _ e
        exact g1 ⟨w, r', by rw [h2]; exact e, hw⟩
      · obtain ⟨c, w, e2⟩ := List.exists_cons_of_ne_nil (numL_ne m)
        have := numL_digits m c (by rw [e2]; exact List.mem_cons_self)
        rw [h1, e2] at e
        injection e with e _
        omega
    · rintro _ ⟨w, r', g1, g2, rfl⟩
      rw [h2] at g1
      have hlen := len_drop (w := 34 :: w ++ [34]) (r := r') (by rw [h1, g1]; simp) hp
      simp at hlen
      refine ⟨.inr rfl, .str ⟨w.toArray⟩, r', by rw [h1, g1]; exact .str g2, ?_⟩
      rw [show z.length - r'.length = p + 1 + w.length + 1 by omega]
  have n34 := of_decide_eq_false hb2.symm
  refine q_when (T := fun b => b = ((tl z)[p]?).any fig) (t_tru (C := ⟨K, noF, noJ, H, false, [], E, Z⟩) (k := .dat (.bool (((tl z)[p]?).any fig))) (e_callP (C := ⟨K, noF, noJ, H, false, [], E, Z⟩) (ks' := [.dat (.str (sg (tl z)[p]?))]) (a_cons (e_var rfl) a_nil) (.cons (.dat fun h => by cases h) .nil) ⟨_, rfl, rfl, rfl⟩ fun k h => h) rfl) (fun hb => ?_) (fun hb3 => ?_)
  · refine b_retS (e_callPZ (C := ⟨K, noF, noJ, H, false, [], E, Z⟩) (A := A_numX D) (ks' := [.dat (.str z), .dat (.int p)]) (S := fun k => ∃ n r, (tl z).drop p = numL n ++ r ∧ n < 10 ^ 40 ∧ (∀ c, r.head? = some c → fig c = false) ∧ k = .dat (.tuple [.int (n : Int), .int ((p + (numL n).length : Nat) : Int)])) (a_cons (e_var rfl) (a_cons (e_var rfl) a_nil)) (.cons (.dat fun h => by cases h) (.cons (.dat fun h => by cases h) .nil)) ⟨z, p, rfl, hp, hz, rfl, rfl⟩ ?_ fun k h => h) ?_
    · rintro cls fs ⟨g1, g2⟩
      show Z cls fs
      rw [← hZ]
      refine ⟨?_, g2⟩
      rintro ⟨v, r', a⟩
      have hd : (tl z)[p]? = ((tl z).drop p).head? := by rw [List.head?_drop]
      rcases atm_of a with ⟨e, _⟩ | ⟨w, e, hw, _⟩ | ⟨m, e, h5, h6, _⟩
      · rw [e] at hd
        exact n45 hd
      · rw [e] at hd
        exact n34 hd
      · exact g1 ⟨m, r', e, h5, h6⟩
    · rintro _ ⟨m, r', g1, g2, g3, rfl⟩
      have hlen := len_drop g1 hp
      refine ⟨.inr rfl, .int (m : Int), r', by rw [g1]; exact .num g2 g3, ?_⟩
      rw [show z.length - r'.length = p + (numL m).length by omega]
  refine b_rz2 (C := ⟨K, noF, noJ, H, false, [], E, Z⟩) (a_cons (e_var rfl) (a_cons (e_var rfl) a_nil)) rfl rfl ?_
  rw [← hZ]
  refine ⟨?_, rfl, p, hp, rfl⟩
  rintro ⟨v, r', a⟩
  have hd : (tl z)[p]? = ((tl z).drop p).head? := by rw [List.head?_drop]
  rcases atm_of a with ⟨e, _⟩ | ⟨w, e, hw, _⟩ | ⟨m, e, h5, h6, _⟩
  · rw [e] at hd
    exact n45 hd
  · rw [e] at hd
    exact n34 hd
  · obtain ⟨c, w, e2⟩ := List.exists_cons_of_ne_nil (numL_ne m)
    have := numL_digits m c (by rw [e2]; exact List.mem_cons_self)
    rw [e, e2] at hd
    rw [hd] at hb3
    have hf : fig c = true := by
      simp [fig]
      exact this
    simp [hf] at hb3
end
end Mh
namespace Mh
open PySem PySem.Spec PyProof.Rows L2 TL
def t_value_ofX (K : PySem.W.Frag) (D : Addr) (E : XK) : TS := (tSeq (tAsg (tLst tNil) (gName 1))
  (tSeq (tAsg (tC (.int 0)) (gName 2))
  (tSeq (tWhile (tB (tC (.bl true))) (tSeq (tAsg (tSl (rSlP K) (tVar 0) (tPart (tVar 2)) (tPart (tOp (rAddP K) (tVar 2) (tC (.int 1))))) (gName 3))
  (tSeq (tIfS (tTest (tOp (rEqP K) (tVar 3) (tC (.str "(")))) (tSeq (tIfS (tTest (tOp (rEqP K) (tCB (rLenP K) (tCons (tVar 1) tNil)) (tC (.int 60)))) (tRz D (tCons (tVar 0) (tCons (tVar 2) tNil)) E) tNext)
  (tSeq (tDrop (tBM K "list" rAppend (tVar 1) (tCons (tLst tNil) tNil)))
  (tSeq (tAug 2 (tC (.int 1)) (ipI fun i j => i + j))
  tCont))) tNext)
  (tSeq (tIfS (tAnd (tTest (tOp (rEqP K) (tVar 3) (tC (.str ")")))) (tTru K (tVar 1))) (tSeq (tAsg (tCB (rTupP K) (tCons (tBM0 K "list" rPop (tVar 1)) tNil)) (gName 4))
  (tAug 2 (tC (.int 1)) (ipI fun i j => i + j))) (tAsg (tCall (sp_atom_atX K D) [] E (tCons (tVar 0) (tCons (tVar 2) tNil))) (gTup K 2 (gCons (gName 4) (gCons (gName 2) gNil)))))
  (tSeq (tIfS (tNot (tTru K (tVar 1))) tBreak tNext)
  (tSeq (tIfS (tTest (tOp (rNeP K) (tSl (rSlP K) (tVar 0) (tPart (tVar 2)) (tPart (tOp (rAddP K) (tVar 2) (tC (.int 1))))) (tC (.str ",")))) (tRz D (tCons (tVar 0) (tCons (tVar 2) tNil)) E) tNext)
  (tSeq (tDrop (tBM K "list" rAppend (tOp (rIx K) (tVar 1) (tUn rNegI (tC (.int 1)))) (tCons (tVar 4) tNil)))
  (tAug 2 (tC (.int 1)) (ipI fun i j => i + j)))))))))
  (tSeq (tIfS (tTest (tOp (rNeP K) (tVar 2) (tCB (rLenP K) (tCons (tVar 0) tNil)))) (tRz D (tCons (tVar 0) (tCons (tVar 2) tNil)) E) tNext)
  (tRet (tVar 4))))))
def t_untoldX (K : PySem.W.Frag) (D : Addr) (E : XK) : TS := (tRet (tCall (sp_value_ofX K D) [] E (tCons (tVar 0) tNil)))
def t_tailX (K : PySem.W.Frag) (D : Addr) (E : XK) : TS := (tSeq (tIfS (tNot (tTru K (tVar 1))) tBreak tNext)
  (tSeq (tIfS (tTest (tOp (rNeP K) (tSl (rSlP K) (tVar 0) (tPart (tVar 2)) (tPart (tOp (rAddP K) (tVar 2) (tC (.int 1))))) (tC (.str ",")))) (tRz D (tCons (tVar 0) (tCons (tVar 2) tNil)) E) tNext)
  (tSeq (tDrop (tBM K "list" rAppend (tOp (rIx K) (tVar 1) (tUn rNegI (tC (.int 1)))) (tCons (tVar 4) tNil)))
  (tAug 2 (tC (.int 1)) (ipI fun i j => i + j)))))
section
variable {K : PySem.W.Frag} {D : Addr} {vs : List V} {H : Hp} {Q : VK} {E : XK}
abbrev CtX (K : PySem.W.Frag) (E : XK) (Z : Zt) (r : Addr) (ls : List Addr) (H : Hp) : Ct := ⟨K, fun a => a ∈ r :: ls, fun H' => ∀ a ∈ r :: ls, H' a = H a, H, false, [], E, Z⟩
abbrev Ct0 (K : PySem.W.Frag) (E : XK) (Z : Zt) (H : Hp) : Ct := ⟨K, noF, noJ, H, false, [], E, Z⟩
theorem Stk.okX {Z : Zt} {H0 H : Hp} {r : Addr} {ls : List Addr} {st : List (List PyData)} (h : Stk K H0 r ls st H) (ok0 : (Ct0 K E Z H0).Ok) : (CtX K E Z r ls H).Ok where
  st := fun H1 H2 j e a ha => (e a ha).trans (j a ha)
  ls := fun H1 a j ha => by
    rw [j a ha]
    rcases List.mem_cons.mp ha with e | ha
    · exact ⟨_, e ▸ h.top⟩
    · exact h.rows.lst a ha
  j0 := fun _ _ => rfl
  hE := fun cls fs d H' fv z rr hd hx fo => by
    have nF : ∀ a o, H0 a = some o → a ∉ r :: ls := fun a o e ha => by
      rw [h.fr a ha] at e
      cases e
    refine ok0.hE cls fs d H' fv z ⟨trivial, fun a o e _ => rr.2 a o (h.old a o e) (nF a o e)⟩ ?_ hx (FsOk.ex (fun a o q => ?_) fo)
    · show H0 d = none
      cases e : H0 d with
      | none => rfl
      | some o =>
        have hd : H d = none := hd
        rw [h.old d o e] at hd
        cases hd
    · obtain ⟨h1, h2, h3⟩ := fsh_of q
      refine fsh_mk h1 id fun y => h3 ⟨?_, y.2⟩
      show H a ≠ none
      cases e : H0 a with
      | none => exact absurd e y.1
      | some o' =>
        rw [h.old a o' e]
        exact Option.some_ne_none _
theorem Stk.repX {Z : Zt} {H0 H : Hp} {r : Addr} {ls : List Addr} {st : List (List PyData)} (h : Stk K H0 r ls st H) (ok0 : (Ct0 K E Z H0).Ok) {z : Str} {p : Int} {s1 s3 s4 : Option V} : Rep (CtX K E Z r ls H) [some (.str z), s1, some (.int p), s3, s4] H [.dat (.str z), .un, .dat (.int p), .un, .un] := by
  have q := h.rep (z := z) (p := p) (s1 := s1) (s3 := s3) (s4 := s4)
  exact ⟨h.okX ok0, q.j, q.old, q.len, q.nd, q.fr, q.sl, fun p hp => by cases hp⟩
/-- the raise, by hand -/
theorem rz_raw {Z : Zt} {H0 H1 : Hp} {z : Str} {q : Nat} {σ : L2.St} {Dd : Ends} (ok0 : (Ct0 K E Z H0).Ok) (h0 : σ[0]? = some (some (.str z))) (h2 : σ[2]? = some (some (.int (q : Int)))) (zz : Z (.ref D) [("at", .int (q : Int)), ("text", .str z)]) (old : ∀ a o, H0 a = some o → H1 a = some o) :
    tRz D (tCons (tVar 0) (tCons (tVar 2) tNil)) E Dd σ H1 := by
  refine ⟨.str z, h0, .int q, h2, show 2 ≤ 1000 by decide, fun a ha => ⟨a, _, _, rfl, upd_same, fun d hd na => ⟨rfl, d, [("at", .int (q : Int)), ("text", .str z)], ?_, upd_same, ?_, ?_⟩⟩⟩
  · rw [upd_ne (Ne.symm na), upd_same]
  · rw [upd_ne na] at hd
    exact hd
  have hd1 : H1 d = none := by
    rw [upd_ne na] at hd
    exact hd
  rw [fin_eq hd1 ha na _ fun b hba hbd => by rw [upd_ne hbd, upd_ne hba, upd_ne hbd, upd_ne hba]]
  refine ok0.hE _ _ d _ _ zz ⟨trivial, fun b o e _ => ?_⟩ ?_ upd_same ⟨rfl, .int _, rfl, .str _, trivial⟩
  · rw [upd_ne (ne_of_none (old b o e) hd1)]
    exact old b o e
  · show H0 d = none
    cases e : H0 d with
    | none => rfl
    | some o =>
      rw [old d o e] at hd1
      cases hd1
def VIX (K : PySem.W.Frag) (H0 : Hp) (z : Str) (r : Addr) (m : Nat) (σ : L2.St) (H : Hp) : Prop := ∃ (p : Nat) (ls : List Addr) (st : List (List PyData)) (s3 s4 : Option V),
  σ = [some (.str z), some (.ref r), some (.int (p : Int)), s3, s4] ∧ p + m = z.length ∧ (∀ d, Par [] (tl z) d ↔ Par st ((tl z).drop p) d) ∧ Stk K H0 r ls st H ∧ (∀ row ∈ st, row.length ≤ p) ∧ st.length ≤ 60
def VFX (K : PySem.W.Frag) (H0 : Hp) (z : Str) (σ : L2.St) (H : Hp) : Prop := ∃ (q : Nat) (s1 s3 : Option V) (v : V) (dv : PyData), σ = [some (.str z), s1, some (.int (q : Int)), s3, some v] ∧ q ≤ z.length ∧ Dp K H v dv ∧ nl dv = true ∧ (∀ a o, H0 a = some o → H a = some o) ∧ ∀ d, Par [] (tl z) d ↔ ((tl z).drop q = [] ∧ d = dv)
def ZV (D : Addr) (z : Str) : Zt := fun cls fs => (¬ ∃ d, Par [] (tl z) d) ∧ badZ D z cls fs
theorem tail_okX {H0 H : Hp} {z : Str} {d : PyData} {r : Addr} {p m : Nat} {ls : List Addr} {st : List (List PyData)} {s3 : Option V} {v : V} {Dd : Ends} (ok0 : (Ct0 K E (ZV D z) H0).Ok) (hz : z.length < sizeLine) (hp : p ≤ z.length) (hf : ∀ x, Par [] (tl z) x ↔ Fin_ st d ((tl z).drop p) x) (hs : Stk K H0 r ls st H)
    (hr : ∀ row ∈ st, row.length < p) (h60 : st.length ≤ 60) (hd : Dp K H v d) (hn : nl d = true) (hm : z.length ≤ p + m) (bk : ∀ σ H, VFX K H0 z σ H → Dd.bk σ H) (nx : ∀ m' σ H, m' ≤ m → VIX K H0 z r m' σ H → Dd.nx σ H) :
    t_tailX K D E Dd [some (.str z), some (.ref r), some (.int (p : Int)), s3, some v] H := by
  have tru : TruV K (.ref r) H (!(ls.reverse.map V.ref).isEmpty) := .inl ⟨_, .inl (.inl hs.top), rfl⟩
  refine ⟨_, rfl, _, tru, ?_⟩
  cases hst : st with
  | nil =>
    have hls : ls = [] := List.length_eq_zero_iff.mp (by rw [hs.len, hst]; rfl)
    subst hls hst
    exact bk _ _ ⟨p, _, _, v, d, rfl, hp, hd, hn, hs.old, hf⟩
  | cons top st' =>
    subst hst
    have hrw := hs.rows
    generalize hls : ls = ls0 at hrw
    cases hrw with
    | @cons l vs ds ls' st2 h1 h2 h3 h4 =>
      subst hls
      have ne : (!((l :: ls').reverse.map V.ref).isEmpty) = true := by simp
      rw [ne]
      refine vl_op (vl_sign rfl rfl (Nat.le_of_lt hz)) vl_c o_neS _ ⟨_, rfl, br (fun hb => ?_) (fun hb => ?_)⟩
      · rw [sgeq _ com1] at hb
        have hb2 : (tl z)[p]? ≠ some 44 := by simpa using hb
        refine rz_raw ok0 rfl rfl ⟨?_, rfl, p, hp, rfl⟩ hs.old
        rintro ⟨x, hx⟩
        obtain ⟨r', e, _⟩ := (hf x).mp hx
        exact hb2 (at_of_drop e).1
      rw [sgeq _ com1] at hb
      have hb2 : (tl z)[p]? = some 44 := by simpa using hb
      obtain ⟨a1, a2⟩ := List.getElem?_eq_some_iff.mp hb2
      have hcs : (tl z).drop p = 44 :: (tl z).drop (p + 1) := by rw [List.drop_eq_getElem_cons a1, a2]
      have a3 : p < z.length := by rw [len_tl]; exact a1
      have at1 : atI ((l :: ls').reverse.map V.ref) (-1) = some (.ref l) := by
        rw [List.reverse_cons, List.map_append]
        exact at_last _ _
      refine vl_op (vl_var rfl) (vl_neg vl_c) (o_ix hs.top at1) _ ?_
      refine ⟨.inl ⟨rfl, _, .inl (.inl h1)⟩, v, rfl, l, vs, v, rfl, rfl, h1, ?_, ?_⟩
      · have := hr top List.mem_cons_self
        rw [h2.length]
        omega
      have nd := hs.nd
      rw [List.nodup_cons, List.nodup_cons] at nd
      have hrl : r ≠ l := fun e => nd.1 (e ▸ List.mem_cons_self)
      have tx := tx_upd_lst (o := .lst (vs ++ [v])) h1
      refine ⟨_, rfl, p, 1, rfl, rfl, nx (z.length - (p + 1)) _ _ (by omega) ⟨p + 1, l :: ls', (top ++ [d]) :: st', s3, some v, ?_, by omega, fun x => ?_, ⟨?_, hs.nd, hs.fr, ?_, ?_⟩, ?_, ?_⟩⟩
      · show [some (V.str z), some (.ref r), some (.int ((p : Int) + 1)), s3, some v] = _
        rw [show (p : Int) + 1 = ((p + 1 : Nat) : Int) by omega]
      · rw [hf x, hcs]
        constructor
        · rintro ⟨r', e, h⟩
          injection e with _ e
          rw [e]
          exact h
        · exact fun h => ⟨_, rfl, h⟩
      · rw [upd_ne hrl]
        exact hs.top
      · intro a o e
        rw [upd_ne fun z => by rw [z, hs.fr l (List.mem_cons_of_mem _ List.mem_cons_self)] at e; cases e]
        exact hs.old a o e
      · refine .cons (vs := vs ++ [v]) upd_same ((DpAll.tx tx h3 h2).append (.cons (Dp.tx tx hn hd) .nil)) ?_ (h4.mv (fun l' hl => upd_ne fun z => nd.2.1 (z ▸ hl)) tx)
        rw [nlAll_app, h3, hn1 hn]
        rfl
      · intro row hrow
        rcases List.mem_cons.mp hrow with e | hrow
        · have := hr top List.mem_cons_self
          rw [e, List.length_append, List.length_singleton]
          omega
        · have := hr row (List.mem_cons_of_mem _ hrow)
          omega
      · simpa using h60
theorem go_value_ofX (h : sp_value_ofX K D vs H Q E) : t_value_ofX K D E { nx := fun _ H' => Q .non H', rt := Q } (L2.start ["text", "rows", "at", "sign", "value"] vs) H := by
  obtain ⟨ks, S, Z, ⟨z, rfl, hz, rfl, rfl⟩, r0, f⟩ := h
  have ok0 : (Ct0 K E (ZV D z) H).Ok := r0.ok
  have hl := r0.len
  match vs, hl with
  | [v0], _ =>
  obtain ⟨v', e1, e2⟩ := r0.sl 0 _ rfl
  have e1 : v0 = v' := by simpa using e1
  subst e1
  obtain rfl := dp_str e2
  have hz' := Nat.le_of_lt hz
  refine ⟨show 0 ≤ sizeLine by decide, fun r hr => ?_⟩
  refine ⟨fun m σ H' => VIX K H z r m σ H', ⟨z.length, 0, [], [], none, none, rfl, by omega, fun d => by simp, ⟨upd_same, by simp, fun a ha => ?_, fun a o e => ?_, .nil⟩, by simp, by simp⟩, ?_⟩
  · rw [List.mem_singleton.mp ha]
    exact hr
  · rw [upd_ne (ne_of_none e hr)]
    exact e
  rintro m σ H' ⟨p, ls, st, s3, s4, rfl, hm, hpar, stk, hrow, h60⟩
  refine ⟨true, rfl, br (fun _ => ?_) (fun h => by cases h)⟩
  refine ⟨fun σ' H'' => ∃ m', m' < m ∧ VIX K H z r m' σ' H'', fun _ _ h => h, ?_⟩
  have hpz : p ≤ z.length := by omega
  have fin : ∀ σ H1, VFX K H z σ H1 → (tSeq (tIfS (tTest (tOp (rNeP K) (tVar 2) (tCB (rLenP K) (tCons (tVar 0) tNil)))) (tRz D (tCons (tVar 0) (tCons (tVar 2) tNil)) E) tNext) (tRet (tVar 4))) { nx := fun _ H' => Q .non H', rt := Q } σ H1 := by
    rintro σ H1 ⟨q, s1, s3, v, dv, rfl, hq, hv, hn, old, hP⟩
    refine vl_op (vl_var rfl) (z := .bl (!decide ((q : Int) = z.length))) (fun Q k => ⟨_, rfl, .str z, z.length, rfl, ⟨hz', rfl⟩, k⟩) o_ne _ ⟨_, rfl, br (fun h => ?_) (fun h => ?_)⟩
    · have hne : q ≠ z.length := fun e => by
        rw [e] at h
        simp at h
      refine rz_raw ok0 rfl rfl ⟨?_, rfl, q, hq, rfl⟩ old
      rintro ⟨x, hx⟩
      have e := congrArg List.length ((hP x).mp hx).1
      rw [List.length_drop, ← len_tl] at e
      simp at e
      omega
    · have he : q = z.length := by
        have : (q : Int) = z.length := by simpa using h
        omega
      have hnil : (tl z).drop q = [] := List.drop_eq_nil_of_le (by rw [← len_tl, he]; exact Nat.le_refl _)
      refine ⟨v, rfl, f (.dat dv) _ _ ⟨dv, (hP dv).mpr ⟨hnil, rfl⟩, rfl⟩ ⟨⟨trivial, fun a o e _ => old a o e⟩, Dp.tx (fun a xs h => ?_) hn hv⟩⟩
      rcases h with h | ⟨ob, h⟩
      · exact .inl (fsh_mk h id fun z => by rw [h] at z; exact z.2)
      · exact .inr ⟨ob, fsh_mk h id fun z => by rw [h] at z; exact z.2⟩
  have lenr : (ls.reverse.map V.ref).length = st.length := by rw [List.length_map, List.length_reverse, stk.len]
  refine vl_sign rfl rfl hz' _ ?_
  have tail : ∀ (q : Nat) (ls : List Addr) (st : List (List PyData)) (s3 : Option V) (v : V) (dv : PyData) (H1 : Hp), p < q → q ≤ z.length → (∀ x, Par [] (tl z) x ↔ Fin_ st dv ((tl z).drop q) x) → Stk K H r ls st H1 → (∀ row ∈ st, row.length < q) → st.length ≤ 60 → Dp K H1 v dv → nl dv = true →
      t_tailX K D E { nx := fun σ' H'' => ∃ m', m' < m ∧ VIX K H z r m' σ' H'', ct := fun σ' H'' => ∃ m', m' < m ∧ VIX K H z r m' σ' H'', rt := Q, bk := (tSeq (tIfS (tTest (tOp (rNeP K) (tVar 2) (tCB (rLenP K) (tCons (tVar 0) tNil)))) (tRz D (tCons (tVar 0) (tCons (tVar 2) tNil)) E) tNext) (tRet (tVar 4))) { nx := fun _ H' => Q .non H', rt := Q } } [some (.str z), some (.ref r), some (.int (q : Int)), s3, some v] H1 :=
    fun q ls st s3 v dv H1 h1 h2 h3 h4 h5 h5b h6 h7 => tail_okX (m := m - 1) ok0 hz h2 h3 h4 h5 h5b h6 h7 (by omega) fin fun m' σ H h8 h9 => ⟨m', by omega, h9⟩
  have front : ∀ c, (tl z)[p]? = some c → (tl z).drop p = c :: (tl z).drop (p + 1) ∧ p < z.length := fun c hc => by
    obtain ⟨hl, hv⟩ := List.getElem?_eq_some_iff.mp hc
    exact ⟨by rw [List.drop_eq_getElem_cons hl, hv], by rw [len_tl]; exact hl⟩
  refine vl_op (vl_var rfl) vl_c o_eqS _ ⟨_, rfl, br (fun hb => ?_) (fun hb40 => ?_)⟩
  · rw [sgeq _ par1] at hb
    obtain ⟨hcs, hlt⟩ := front 40 (of_decide_eq_true hb)
    refine vl_op (vl_len (vl_var rfl) stk.top) vl_c o_eq _ ⟨_, rfl, br (fun h => ?_) (fun h => ?_)⟩
    · rw [lenr] at h
      have := of_decide_eq_true h
      refine rz_raw ok0 rfl rfl ⟨?_, rfl, p, hpz, rfl⟩ stk.old
      rintro ⟨x, hx⟩
      have h2 := (hpar x).mp hx
      rw [hcs] at h2
      have := (par_op.mp h2).1
      omega
    · rw [lenr] at h
      have hlt60 : st.length < 60 := by
        have := of_decide_eq_false h
        omega
      refine ⟨.ref r, rfl, .inl ⟨rfl, _, .inl (.inl stk.top)⟩, show 0 ≤ sizeLine by decide, fun q hq => ⟨r, _, .ref q, rfl, rfl, (upd_ne (ne_of_none stk.top hq)).trans stk.top, ?_, ?_⟩⟩
      · rw [lenr]
        exact Nat.lt_trans hlt60 (by decide)
      have hqr : r ≠ q := ne_of_none stk.top hq
      have hql : ∀ l ∈ ls, l ≠ q := fun l hl => by
        obtain ⟨vs, e⟩ := stk.rows.lst l hl
        exact ne_of_none e hq
      have hrl := List.nodup_cons.mp stk.nd
      have top1 : upd H' q (.lst []) r = some (.lst (ls.reverse.map V.ref)) := (upd_ne hqr).trans stk.top
      refine ⟨_, rfl, p, 1, rfl, rfl, m - 1, by omega, p + 1, q :: ls, [] :: st, some (.str (sg (tl z)[p]?)), s4, ?_, by omega, fun x => ?_, ⟨?_, ?_, ?_, ?_, ?_⟩, ?_, ?_⟩
      · show [some (V.str z), some (.ref r), some (.int ((p : Int) + 1)), some (.str (sg (tl z)[p]?)), s4] = _
        rw [show (p : Int) + 1 = ((p + 1 : Nat) : Int) by omega]
      · rw [hpar x, hcs, par_op]
        exact ⟨fun h => h.2, fun h => ⟨hlt60, h⟩⟩
      · rw [upd_same, List.reverse_cons, List.map_append]
        rfl
      · rw [List.nodup_cons, List.nodup_cons]
        refine ⟨?_, fun hl => hql q hl rfl, hrl.2⟩
        intro hm
        rcases List.mem_cons.mp hm with e | hm
        · exact hqr e
        · exact hrl.1 hm
      · intro a ha
        rcases List.mem_cons.mp ha with e | ha
        · exact e ▸ stk.fr r List.mem_cons_self
        · rcases List.mem_cons.mp ha with e | ha
          · subst e
            cases hz : H a with
            | none => rfl
            | some o =>
              rw [stk.old a o hz] at hq
              cases hq
          · exact stk.fr a (List.mem_cons_of_mem _ ha)
      · intro a o e
        have n1 : a ≠ r := fun z => by rw [z, stk.fr r List.mem_cons_self] at e; cases e
        rw [upd_ne n1, upd_ne (ne_of_none (stk.old a o e) hq)]
        exact stk.old a o e
      · have tx : L2.Tx H' (upd (upd H' q (.lst [])) r (.lst (ls.reverse.map V.ref ++ [V.ref q]))) := fun a xs h => tx_upd_lst top1 a xs (tx_upd_new hq a xs h)
        refine .cons (vs := []) ((upd_ne (Ne.symm hqr)).trans upd_same) .nil rfl (stk.rows.mv (fun l hl => ?_) tx)
        rw [upd_ne (show l ≠ r from fun z => hrl.1 (z ▸ hl)), upd_ne (hql l hl)]
      · intro row hrw
        rcases List.mem_cons.mp hrw with e | hrw
        · rw [e]
          exact Nat.zero_le _
        · have := hrow row hrw
          omega
      · rw [List.length_cons]
        omega
  rw [sgeq _ par1] at hb40
  have n40 : (tl z)[p]? ≠ some 40 := of_decide_eq_false hb40
  have hhead : ((tl z).drop p).head? = (tl z)[p]? := List.head?_drop
  -- an atom is due
  have atom : ((tl z)[p]? ≠ some 41 ∨ st = []) → (tAsg (tCall (sp_atom_atX K D) [] E (tCons (tVar 0) (tCons (tVar 2) tNil))) (gTup K 2 (gCons (gName 4) (gCons (gName 2) gNil)))) { nx := t_tailX K D E { nx := fun σ' H'' => ∃ m', m' < m ∧ VIX K H z r m' σ' H'', ct := fun σ' H'' => ∃ m', m' < m ∧ VIX K H z r m' σ' H'', rt := Q, bk := (tSeq (tIfS (tTest (tOp (rNeP K) (tVar 2) (tCB (rLenP K) (tCons (tVar 0) tNil)))) (tRz D (tCons (tVar 0) (tCons (tVar 2) tNil)) E) tNext) (tRet (tVar 4))) { nx := fun _ H' => Q .non H', rt := Q } }, ct := fun σ' H'' => ∃ m', m' < m ∧ VIX K H z r m' σ' H'', rt := Q, bk := (tSeq (tIfS (tTest (tOp (rNeP K) (tVar 2) (tCB (rLenP K) (tCons (tVar 0) tNil)))) (tRz D (tCons (tVar 0) (tCons (tVar 2) tNil)) E) tNext) (tRet (tVar 4))) { nx := fun _ H' => Q .non H', rt := Q } } [some (.str z), some (.ref r), some (.int (p : Int)), some (.str (sg (tl z)[p]?)), s4] H' := by
    intro h41
    have hat : ∀ x, Par [] (tl z) x ↔ ∃ v r, Atm ((tl z).drop p) v r ∧ Fin_ st v r x := fun x => (hpar x).trans (par_at (by rw [hhead]; exact n40) (by rw [hhead]; exact h41))
    have ea : EB (CtX K E (ZV D z) r ls H') (tCall (sp_atom_atX K D) [] E (tCons (tVar 0) (tCons (tVar 2) tNil))) [.dat (.str z), .un, .dat (.int (p : Int)), .un, .un] (fun k => ∃ v rr, Atm ((tl z).drop p) v rr ∧ k = .dat (.tuple [v, .int ((z.length - rr.length : Nat) : Int)])) :=
      e_callPZ (C := CtX K E (ZV D z) r ls H') (A := A_atomX D) (ks' := [.dat (.str z), .dat (.int (p : Int))]) (a_cons (e_var rfl) (a_cons (e_var rfl) a_nil)) (.cons (.dat fun h => by cases h) (.cons (.dat fun h => by cases h) .nil)) ⟨z, p, rfl, hpz, hz', rfl, rfl⟩ (fun cls fs hh => ⟨fun ⟨x, hx⟩ => by
        obtain ⟨v, rr, a, _⟩ := (hat x).mp hx
        exact hh.1 ⟨v, rr, a⟩, hh.2⟩) fun k h => h
    refine ea _ H' (stk.repX ok0) _ fun k u H1 hk q o => ?_
    obtain ⟨v, rr, ha, rfl⟩ := hk
    obtain ⟨c, w, hcw, _, _⟩ := atm_suf ha
    obtain ⟨_, a2, _⟩ := at_of_drop (hcw.trans (by rw [List.cons_append]))
    have hlen := len_drop hcw (Nat.le_of_lt a2)
    rw [List.length_cons] at hlen
    have o : Dp K (msk (CtX K E (ZV D z) r ls H') _ H1) u _ := o
    obtain ⟨a, xs, rfl, sq, da⟩ := dp_tup (Dp.ex msk_le o)
    have q2 : R (CtS K r ls H') H' H1 := ⟨q.1, q.2⟩
    cases da with
    | cons d1 da =>
      cases da with
      | cons d2 da =>
        cases da
        obtain rfl := dp_int d2
        refine ⟨a, _, rfl, sq, rfl, _, _, rfl, _, _, rfl, rfl, ?_⟩
        refine tail (z.length - rr.length) ls st (some (.str (sg (tl z)[p]?))) _ v H1 (by omega) (by omega) (fun x => ?_) (stk.up q2) (fun row hr => by have := hrow row hr; omega) h60 d1 (atm_nl ha)
        have e9 : (tl z).drop (z.length - rr.length) = rr := by
          rw [show z.length - rr.length = p + (c :: w).length by rw [List.length_cons]; omega, ← List.drop_drop, hcw, List.drop_left]
        rw [e9, hat x]
        constructor
        · rintro ⟨v', r', a', f'⟩
          obtain ⟨rfl, rfl⟩ := atm_det a' ha
          exact f'
        · exact fun f' => ⟨v, rr, ha, f'⟩
  refine vl_op (vl_var rfl) vl_c o_eqS _ ⟨_, rfl, br (fun hb => ?_) (fun hb => ?_)⟩
  · rw [sgeq _ par2] at hb
    obtain ⟨hcs, hlt⟩ := front 41 (of_decide_eq_true hb)
    have tru : TruV K (.ref r) H' (!(ls.reverse.map V.ref).isEmpty) := .inl ⟨_, .inl (.inl stk.top), rfl⟩
    refine ⟨.ref r, rfl, _, tru, ?_⟩
    cases hst : st with
    | nil =>
      have hls : ls = [] := List.length_eq_zero_iff.mp (by rw [stk.len, hst]; rfl)
      have e0 : (!(ls.reverse.map V.ref).isEmpty) = false := by rw [hls]; rfl
      rw [e0]
      exact atom (.inr hst)
    | cons top st' =>
      subst hst
      have hrw := stk.rows
      generalize hls : ls = ls0 at hrw
      cases hrw with
      | @cons l vs ds ls' st2 h1 h2 h3 h4 =>
        subst hls
        have e0 : (!((l :: ls').reverse.map V.ref).isEmpty) = true := by simp
        rw [e0]
        have e3 : (l :: ls').reverse.map V.ref = ls'.reverse.map V.ref ++ [.ref l] := by
          rw [List.reverse_cons, List.map_append]
          rfl
        have nd := stk.nd
        rw [List.nodup_cons, List.nodup_cons] at nd
        have hrl : l ≠ r := fun e => nd.1 (e ▸ List.mem_cons_self)
        have tx1 := tx_upd_lst (o := .lst ((l :: ls').reverse.map V.ref).dropLast) stk.top
        refine ⟨.ref r, rfl, .inl ⟨rfl, _, .inl (.inl stk.top)⟩, r, _, .ref l, rfl, rfl, stk.top, by rw [e3]; simp, l, vs, rfl, .inl ⟨.inl (.inl ((upd_ne hrl).trans h1)), fun q hq => ⟨_, rfl, p, 1, rfl, rfl, ?_⟩⟩⟩
        have tx2 := tx_upd_new (o := .tup vs) hq
        have tx : L2.Tx H' (upd (upd H' r (.lst ((l :: ls').reverse.map V.ref).dropLast)) q (.tup vs)) := fun a xs h => tx2 a xs (tx1 a xs h)
        have rq : r ≠ q := fun e => by rw [← e, upd_same] at hq; cases hq
        have keep : ∀ a, a ≠ r → a ≠ q → upd (upd H' r (.lst ((l :: ls').reverse.map V.ref).dropLast)) q (.tup vs) a = H' a := fun a z1 z2 => by rw [upd_ne z2, upd_ne z1]
        have qnew : ∀ a o, H' a = some o → a ≠ q := fun a o e z => by
          subst z
          by_cases hra : a = r
          · exact rq hra.symm
          · rw [upd_ne hra, e] at hq
            cases hq
        refine tail (p + 1) ls' st' (some (.str (sg (tl z)[p]?))) (.ref q) (.tuple top) _ (by omega) (by omega) (fun x => by rw [hpar x, hcs, par_cl]) ⟨?_, ?_, ?_, ?_, ?_⟩ (fun row hr => by have := hrow row (List.mem_cons_of_mem _ hr); omega) (by rw [List.length_cons] at h60; omega) (.tup (.inl (.inl upd_same)) (DpAll.tx tx h3 h2)) h3
        · rw [upd_ne rq, upd_same, e3, List.dropLast_concat]
        · rw [List.nodup_cons]
          exact ⟨fun h => nd.1 (List.mem_cons_of_mem _ h), nd.2.2⟩
        · intro a ha
          rcases List.mem_cons.mp ha with e | ha
          · exact stk.fr a (e ▸ List.mem_cons_self)
          · exact stk.fr a (List.mem_cons_of_mem _ (List.mem_cons_of_mem _ ha))
        · intro a o e
          have e5 := stk.old a o e
          rw [keep a (fun z => by rw [z, stk.fr r List.mem_cons_self] at e; cases e) (qnew a o e5)]
          exact e5
        · refine h4.mv (fun l' hl => ?_) tx
          obtain ⟨vs', e5⟩ := h4.lst l' hl
          exact keep l' (fun z => nd.1 (z ▸ List.mem_cons_of_mem _ hl)) (qnew l' _ e5)
  · rw [sgeq _ par2] at hb
    exact atom (.inl (of_decide_eq_false hb))
theorem go_untoldX (h : sp_untoldX K D vs H Q E) : t_untoldX K D E { nx := fun _ H' => Q .non H', rt := Q } (L2.start ["text"] vs) H := by
  refine sp_bodyE (t := t_untoldX K D) ?_ h
  rintro H ks S Z ⟨z, rfl, hz, rfl, rfl⟩ n _
  change BS ⟨K, noF, noJ, H, false, [], E, ZV D z⟩ _ [.dat (.str z)] _
  refine b_retS (e_callPZ (C := ⟨K, noF, noJ, H, false, [], E, ZV D z⟩) (A := A_valX D) (S := fun k => ∃ d, Par [] (tl z) d ∧ k = .dat d) (ks' := [.dat (.str z)]) (a_cons (e_var rfl) a_nil) (.cons (.dat fun h => by cases h) .nil) ⟨z, rfl, hz, rfl, rfl⟩ (fun _ _ h => h) fun k h => h) ?_
  rintro _ ⟨d, hd, rfl⟩
  exact ⟨.inr (par_nl hd fun _ h => by cases h), d, hd, rfl⟩
end
end Mh
namespace Mh
open PySem PySem.Spec PyProof.Rows L2 TL
/-! ### what is walked is not known beforehand -/
def EIS (C : Ct) (wi : TI) (ρ : List Kd) (P : List PyData → Prop) : Prop :=
  ∀ (σ : L2.St) (H : Hp), Rep C σ H ρ → ∀ W : It → Hp → Prop, (∀ ds J H', P ds → R C H H' → ItY C ρ H' J ds → W J H') → wi σ H W
section
variable {C : Ct} {σ : L2.St} {H H' H1 H2 Hs : Hp} {ρ : List Kd} {v : V} {k x y z : Kd} {l : Addr} {d e : PyData} {ds es : List PyData} {ta tb te : TE} {tt : TT} {t u : TS} {i j : Nat} {S S1 S2 : Kd → Prop} {P P' : Po}
theorem e_lcS {wi : TI} {g : TG} {js : List Nat} {P : List PyData → Prop} (hw : EIS C wi ρ P) (h : ∀ ds (wi' : TI), P ds → EI C wi' ρ ds → EB C (tLc wi' g tt te js) ρ S) : EB C (tLc wi g tt te js) ρ S := fun σ H r Q q => hw σ H r _ fun ds J H1 p r1 y =>
  h ds (fun _ H' W => H' = H1 → W J H1) p (fun σ' H' r' W q' e => by
    subst e
    exact q' J H' (R.refl r'.j) y) σ H1 (r.up r1) Q (fun k v H' s r2 o => q k v H' s (r1.trans r2) (o.back r.ok r1)) rfl
theorem i_rngS {P : List PyData → Prop} (h : EB C te ρ S) (s : ∀ k, S k → ∃ m : Int, k = .dat (.int m) ∧ -(2 ^ 62) ≤ m ∧ m < 2 ^ 62 ∧ P (intsL 0 m.toNat)) : EIS C (iRng1 (tCons te tNil)) ρ P := fun σ H r W q => h σ H r _ fun k v H1 s1 r1 o1 => by
  obtain ⟨m, rfl, m0, m1, p⟩ := s k s1
  obtain rfl := dp_int o1
  exact ⟨m, rfl, m0, m1, q _ _ H1 p r1 ity_r⟩
theorem b_forS {M : Int → Prop} (h : EB C te ρ S) (s : ∀ k, S k → ∃ m : Int, k = .dat (.int m) ∧ -(2 ^ 62) ≤ m ∧ m < 2 ^ 62 ∧ M m)
    (hb : ∀ (m : Int) (wi' : TI), M m → (∀ (σ : L2.St) (H : Hp), Rep C σ H ρ → ∀ W : It → Hp → Prop, (∀ H', R C H H' → W (Itr 0 m.toNat) H') → wi' σ H W) → BS C (tFor wi' (gName j) t) ρ P) : BS C (tFor (iRng1 (tCons te tNil)) (gName j) t) ρ P := fun σ H r D pd => h σ H r _ fun k v H1 s1 r1 o1 => by
  obtain ⟨m, rfl, m0, m1, p⟩ := s k s1
  obtain rfl := dp_int o1
  refine ⟨m, rfl, m0, m1, ?_⟩
  exact hb m (fun _ H' W => H' = H1 → W (Itr 0 m.toNat) H1) p (fun σ' H' r' W q e => by
    subst e
    exact q H' (R.refl r'.j)) σ H1 (r.up r1) D pd rfl
theorem e_joinS {z : Str} (h : E1 C ta ρ (.dat (.str z))) (h2 : EB C tb ρ S1) (s : ∀ k, S1 k → ∃ zs : List Str, seqK k = some (zs.map .str) ∧ (zs.map (·.length)).sum + zs.length * z.length ≤ 16777216 ∧ S (.dat (.str (Txt.join z zs)))) :
    EB C (tM1 (rJoin C.K) ta tb) ρ S := fun σ H rp Q q => h σ H rp _ fun k1 v H1 s1 r1 o1 => by
  subst s1
  obtain rfl := dp_str o1
  refine ⟨⟨z, rfl⟩, h2 σ H1 (rp.up r1) _ fun k2 w H2 s2 r2 o2 => ?_⟩
  obtain ⟨zs, e, hz, s3⟩ := s k2 s2
  obtain ⟨a, rfl, h3⟩ := o2.strs e
  exact ⟨z, a, zs, rfl, rfl, h3, hz, q _ _ _ s3 (r1.trans r2) (.str _)⟩
theorem sum_len (zs : List Str) : (zs.map (·.length)).sum = ((zs.map tl).flatten).length := by
  rw [List.length_flatten, List.map_map]
  congr 1
/-- ''.join -/
theorem e_join0 {zs : List Str} {w : List Nat} (h2 : E1 C tb ρ k) (e : seqK k = some (zs.map .str)) (hw : (zs.map tl).flatten = w) (hz : w.length ≤ 16777216) : E1 C (tM1 (rJoin C.K) (tC (.str "")) tb) ρ (.dat (.str ⟨w.toArray⟩)) :=
  (e_join (zs := zs) e_str h2 e (by rw [sum_len, hw, show (("" : Str)).length = 0 from rfl]; omega)).is (by
    refine congrArg (fun z => Kd.dat (PyData.str z)) (ext_tl ?_)
    rw [tl_join0, hw])
end
end Mh
namespace Mh
open PySem PySem.Spec PyProof.Rows L2 TL
/-! ### find from a place, lstrip of signs, a text repeated -/
def rFind3 : V → List V → Hp → VK → Prop := fun x xs H Q => ∃ (a b : Str) (i : Int), x = .str a ∧ xs = [.str b, .int i] ∧ Q (.int (Txt.find3 a b i)) H
def rLstripC : V → List V → Hp → VK → Prop := fun x xs H Q => ∃ a b, x = .str a ∧ xs = [.str b] ∧ a.length ≤ sizeLine ∧ Q (.str (Txt.lstripChars a b)) H
section
variable {C : Ct} {ρ : List Kd} {ta tb tc : TE} {a b : Str} {i : Int}
theorem e_find3 (ha : E1 C ta ρ (.dat (.str a))) (hb : E1 C tb ρ (.dat (.str b))) (hc : E1 C tc ρ (.dat (.int i))) : E1 C (tBM C.K "str" rFind3 ta (tCons tb (tCons tc tNil))) ρ (.dat (.int (Txt.find3 a b i))) := fun σ H rp Q q => ha σ H rp _ fun k1 v H1 s1 r1 o1 => by
  subst s1
  obtain rfl := dp_str o1
  refine ⟨rfl, (a_cons hb (a_cons hc a_nil)) σ H1 (rp.up r1) _ fun ks vs H2 s2 r2 o2 => ?_⟩
  subst s2
  obtain ⟨v, w, rfl, o3, o4⟩ := o2.two
  obtain rfl := dp_str o3
  obtain rfl := dp_int o4
  exact ⟨a, b, i, rfl, rfl, q _ _ _ rfl (r1.trans r2) (.int _)⟩
theorem e_lstripC (ha : E1 C ta ρ (.dat (.str a))) (hb : E1 C tb ρ (.dat (.str b))) (hl : a.length ≤ sizeLine) : E1 C (tBM C.K "str" rLstripC ta (tCons tb tNil)) ρ (.dat (.str (Txt.lstripChars a b))) := fun σ H rp Q q => ha σ H rp _ fun k1 v H1 s1 r1 o1 => by
  subst s1
  obtain rfl := dp_str o1
  refine ⟨rfl, (a_cons hb a_nil) σ H1 (rp.up r1) _ fun ks vs H2 s2 r2 o2 => ?_⟩
  subst s2
  obtain ⟨v, rfl, o3⟩ := o2.one
  obtain rfl := dp_str o3
  exact ⟨a, b, rfl, rfl, hl, q _ _ _ rfl (r1.trans r2) (.str _)⟩
end
theorem quoS : ("\"" : Str) = ⟨#[34]⟩ := ext_tl quo
theorem find_cases {z : Str} {p : Nat} (hp : p ≤ z.length) : (Txt.find3 z "\"" (p : Int) = -1 ∧ 34 ∉ (tl z).drop p) ∨ ∃ w r, (tl z).drop p = w ++ 34 :: r ∧ 34 ∉ w ∧ Txt.find3 z "\"" (p : Int) = ((p + w.length : Nat) : Int) := by
  have hfrom : fromIndex z.length (p : Int) = p := by
    unfold fromIndex
    rw [if_neg (by omega)]
    omega
  have gd : ∀ v, v < z.length → z.cps.getD v 0 = (tl z).getD v 0 := fun v hv => by
    simp [tl, Array.getD_eq_getD_getElem?, List.getD_eq_getElem?_getD]
  have hz := len_tl z
  rw [quoS]
  rcases StrLaws.find3_spec z 34 (p : Int) with ⟨h1, h2⟩ | ⟨k, h1, h2, h3, h4, h5⟩
  · refine .inl ⟨h1, fun hm => ?_⟩
    obtain ⟨i, hi⟩ := List.mem_iff_getElem?.mp hm
    rw [List.getElem?_drop] at hi
    obtain ⟨h6, h7⟩ := List.getElem?_eq_some_iff.mp hi
    rw [hfrom] at h2
    refine h2 (p + i) (Nat.le_add_right _ _) (by rw [hz]; exact h6) ?_
    rw [gd _ (by rw [hz]; exact h6), List.getD_eq_getElem?_getD, hi]
    rfl
  · rw [hfrom] at h2 h5
    have hk : k < (tl z).length := by rw [← hz]; exact h3
    have hke : (tl z)[k]? = some 34 := by
      rw [gd k h3, List.getD_eq_getElem?_getD, List.getElem?_eq_getElem hk] at h4
      rw [List.getElem?_eq_getElem hk]
      exact congrArg some h4
    have split : (tl z).drop p = ((tl z).drop p).take (k - p) ++ (tl z).drop k := by
      have := List.take_append_drop (k - p) ((tl z).drop p)
      rw [List.drop_drop, show p + (k - p) = k by omega] at this
      exact this.symm
    refine .inr ⟨((tl z).drop p).take (k - p), (tl z).drop (k + 1), ?_, fun hm => ?_, ?_⟩
    · rw [List.drop_eq_getElem_cons hk] at split
      rw [List.getElem?_eq_getElem hk] at hke
      rw [Option.some.inj hke] at split
      exact split
    · obtain ⟨i, hi⟩ := List.mem_iff_getElem?.mp hm
      have hil : i < k - p := by
        have := (List.getElem?_eq_some_iff.mp hi).1
        rw [List.length_take] at this
        omega
      rw [List.getElem?_take_of_lt hil, List.getElem?_drop] at hi
      have h6 := (List.getElem?_eq_some_iff.mp hi).1
      refine h5 (p + i) (Nat.le_add_right _ _) (by omega) ?_
      rw [gd _ (by omega), List.getD_eq_getElem?_getD, hi]
      rfl
    · rw [h1, List.length_take, List.length_drop]
      have : min (k - p) ((tl z).length - p) = k - p := by omega
      rw [this]
      omega
theorem not34 {w : List Nat} (h : w.all ltr = true) : 34 ∉ w := fun hm => by
  have := List.all_eq_true.mp h 34 hm
  exact absurd this (by decide)
theorem split34 {w r w' r' : List Nat} (h : w ++ 34 :: r = w' ++ 34 :: r') (n : 34 ∉ w) (n' : 34 ∉ w') : w = w' ∧ r = r' := by
  have e1 := tw_stop (p := fun c => c != 34) (w := w) (c := 34) (r := r) (List.all_eq_true.mpr fun c hc => by have h34 : c ≠ 34 := fun (e : c = 34) => n (e ▸ hc); simpa using h34) (by decide)
  have e2 := tw_stop (p := fun c => c != 34) (w := w') (c := 34) (r := r') (List.all_eq_true.mpr fun c hc => by have h34 : c ≠ 34 := fun (e : c = 34) => n' (e ▸ hc); simpa using h34) (by decide)
  rw [h, e2] at e1
  subst e1
  have := List.append_cancel_left h
  injection this with _ e
  exact ⟨rfl, e⟩
theorem lstrip_len {z : Str} : (Txt.lstripChars z "0123456789").length = z.length - ((tl z).takeWhile fig).length := by
  have hgo : (("0123456789" : Str).cps.contains) = fig := by
    funext c
    rw [← mem_digs]
    simp [tl, Array.contains_eq_mem]
  have e1 : tl (Txt.lstripChars z "0123456789") = (tl z).drop ((tl z).takeWhile fig).length := by
    unfold Txt.lstripChars Txt.stripBy
    rw [hgo]
    have lo : stripLo fig true z = ((tl z).takeWhile fig).length := by
      unfold stripLo
      rw [if_pos rfl]
    have hi : ∀ n, stripHi fig false z n = z.length := fun n => by
      unfold stripHi
      rw [if_neg Bool.false_ne_true]
    split
    · rename_i hs
      unfold stripSame at hs
      rw [lo] at hs
      have : ((tl z).takeWhile fig).length = 0 := by
        rw [Bool.and_eq_true] at hs
        simpa using hs.1
      rw [this]
      rfl
    · unfold stripped
      rw [lo, hi, tl_strSub_end]
  rw [len_tl, e1, List.length_drop, ← len_tl]
def bd : PyData → Bool
  | .str x => match tl x with
    | [c] => !ltr c
    | _ => false
  | _ => false
theorem bad_len {w : Str} : decide ((0 : Int) < (((signs w).filter bd).length : Int)) = !(tl w).all ltr := by
  have : ∀ l : List Nat, decide ((0 : Int) < (((l.map fun c => PyData.str ⟨#[c]⟩).filter bd).length : Int)) = !l.all ltr := by
    intro l
    induction l with
    | nil => rfl
    | cons c l ih =>
      have hb : bd (.str ⟨#[c]⟩) = !ltr c := rfl
      rw [List.map_cons, List.filter_cons, hb, List.all_cons]
      cases hc : ltr c with
      | true =>
        rw [if_neg (by simp)]
        simpa using ih
      | false =>
        rw [if_pos (by simp)]
        simp
  exact this (tl w)
/-- the turns over a text -/
theorem i_strS {C : Ct} {ρ : List Kd} {te : TE} {z : Str} (hl : E1 C te ρ (.dat (.str z))) : EI C (iStr te) ρ (signs z) := fun σ H r W q => hl σ H r _ fun k' v H1 s1 r1 o1 => by
  subst s1
  obtain rfl := dp_str o1
  have hn : (signs z).length = z.cps.size := by simp [signs, TL.tl]
  refine ⟨z, rfl, q _ _ r1 ⟨fun H n _ h => by rw [hn] at h; exact h, fun H n _ h => by rw [hn] at h; exact h, fun H n x H' _ h y => ?_⟩⟩
  obtain ⟨e1, c, e2, rfl⟩ := y
  refine ⟨e1, .str ⟨#[c]⟩, ?_, .str _⟩
  show ((TL.tl z).map _)[n]? = _
  rw [List.getElem?_map, Array.getElem?_toList, e2]
  rfl
end Mh
namespace Mh
open PySem PySem.Spec PyProof.Rows L2 TL
/-! ### the law's own reader of value texts -/
def Rdg (z : Str) : Prop := ∃ d, Par [] (tl z) d
def A_reads : At := fun ks S Z => ∃ z : Str, ks = [.dat (.str z)] ∧ z.length ≤ 100000 ∧ S = (fun k => ∃ b : Bool, (b = true ↔ Rdg z) ∧ k = .dat (.bool b)) ∧ Z = noZ
def sp_law_reads (K : PySem.W.Frag) : Sp := SpP K A_reads
def t_law_reads (K : PySem.W.Frag) : TS := (tSeq (tAsg (tC (.int 0)) (gName 1))
  (tSeq (tAsg (tC (.int 0)) (gName 2))
  (tSeq (tAsg (tC (.bl false)) (gName 3))
  (tSeq (tFor (iRng1 (tCons (tCB (rLenP K) (tCons (tVar 0) tNil)) tNil)) (gName 4) (tSeq (tIfS (tTest (tOp (rEqP K) (tVar 2) (tCB (rLenP K) (tCons (tVar 0) tNil)))) tBreak tNext)
  (tSeq (tAsg (tOp (rIx K) (tVar 0) (tVar 2)) (gName 5))
  (tSeq (tAsg (tOp (rAddP K) (tVar 2) (tC (.int 1))) (gName 6))
  (tSeq (tIfS (tTru K (tVar 3)) (tSeq (tIfS (tOr (tTest (tOp (rEqP K) (tVar 1) (tC (.int 0)))) (tTest (tOp (rNeP K) (tVar 5) (tC (.str ","))))) (tRet (tC (.bl false))) tNext)
  (tAsg (tC (.bl false)) (gName 3))) (tIfS (tTest (tOp (rEqP K) (tVar 5) (tC (.str "(")))) (tSeq (tAsg (tOp (rAddP K) (tVar 1) (tC (.int 1))) (gName 1))
  (tIfS (tTest (tOp rGtI (tVar 1) (tC (.int 60)))) (tRet (tC (.bl false))) tNext)) (tSeq (tAsg (tC (.bl true)) (gName 3))
  (tIfS (tTest (tOp (rEqP K) (tVar 5) (tC (.str ")")))) (tSeq (tAsg (tOp rSubI (tVar 1) (tC (.int 1))) (gName 1))
  (tIfS (tTest (tOp rLtI (tVar 1) (tC (.int 0)))) (tRet (tC (.bl false))) tNext)) (tIfS (tTest (tOp (rEqP K) (tVar 5) (tC (.str "\"")))) (tSeq (tAsg (tOp (rAddP K) (tBM K "str" rFind3 (tVar 0) (tCons (tC (.str "\"")) (tCons (tOp (rAddP K) (tVar 2) (tC (.int 1))) tNil))) (tC (.int 1))) (gName 6))
  (tSeq (tAsg (tSl (rSlP K) (tVar 0) (tPart (tOp (rAddP K) (tVar 2) (tC (.int 1)))) (tPart (tCB rMax2 (tCons (tOp rSubI (tVar 6) (tC (.int 1))) (tCons (tOp (rAddP K) (tVar 2) (tC (.int 1))) tNil))))) (gName 7))
  (tIfS (tOr (tTest (tOp (rEqP K) (tVar 6) (tC (.int 0)))) (tTest (tOp rGtI (tCB (rLenP K) (tCons (tLc (iStr (tVar 7)) (gName 8) (tTest (tOp rNotInS (tVar 8) (tC (.str "abcdefghijklmnopqrstuvwxyz")))) (tVar 8) [8]) tNil)) (tC (.int 0))))) (tRet (tC (.bl false))) tNext))) (tIfS (tTest (tOp rInS (tVar 5) (tC (.str "0123456789")))) (tSeq (tAsg (tOp rSubI (tOp (rAddP K) (tVar 2) (tCB (rLenP K) (tCons (tSl (rSlP K) (tVar 0) (tPart (tVar 2)) tNoPart) tNil))) (tCB (rLenP K) (tCons (tBM K "str" rLstripC (tSl (rSlP K) (tVar 0) (tPart (tVar 2)) tNoPart) (tCons (tC (.str "0123456789")) tNil)) tNil))) (gName 6))
  (tIfS (tOr (tTest (tOp rGtI (tOp rSubI (tVar 6) (tVar 2)) (tC (.int 40)))) (tAnd (tTest (tOp rGtI (tOp rSubI (tVar 6) (tVar 2)) (tC (.int 1)))) (tTest (tOp (rEqP K) (tVar 5) (tC (.str "0")))))) (tRet (tC (.bl false))) tNext)) (tIfS (tTest (tOp (rNeP K) (tVar 5) (tC (.str "-")))) (tRet (tC (.bl false))) tNext)))))))
  (tAsg (tVar 6) (gName 2)))))))
  (tRet (tAndV (tVar 3) (tAndV (tOp (rEqP K) (tVar 1) (tC (.int 0))) (tOp (rEqP K) (tVar 2) (tCB (rLenP K) (tCons (tVar 0) tNil))))))))))
/-- where the reader stands -/
def RdS (z : Str) (e : Bool) (dp p : Nat) : Prop := ∃ (st : List (List PyData)) (v : PyData), st.length = dp ∧ dp ≤ 60 ∧
  (Rdg z ↔ if e = true then ∃ d, Fin_ st v ((tl z).drop p) d else ∃ d, Par st ((tl z).drop p) d)
theorem rst_end {z : Str} {e : Bool} {dp p : Nat} (h : RdS z e dp p) (hp : z.length ≤ p) : (e && (decide ((dp : Int) = 0))) = true ↔ Rdg z := by
  obtain ⟨st, v, h1, _, h2⟩ := h
  have hn : (tl z).drop p = [] := List.drop_eq_nil_of_le (by rw [← len_tl]; exact hp)
  rw [h2, hn]
  cases e with
  | false =>
    simp only [Bool.false_and, Bool.false_eq_true, if_false, false_iff]
    rintro ⟨d, hd⟩
    generalize hc : ([] : List Nat) = cs at hd
    cases hd with
    | op _ _ => cases hc
    | cl1 => cases hc
    | cl2 _ => cases hc
    | at1 a => obtain ⟨c, w, e, _⟩ := atm_suf a; rw [← hc] at e; cases e
    | at2 a _ => obtain ⟨c, w, e, _⟩ := atm_suf a; rw [← hc] at e; cases e
  | true =>
    simp only [Bool.true_and, if_true]
    cases st with
    | nil =>
      have : dp = 0 := h1.symm
      subst this
      simp [Fin_]
    | cons top st =>
      have : dp ≠ 0 := by rw [← h1]; simp
      simp [Fin_, this]
def RI (z : Str) (n : Nat) (ρ : List Kd) : Prop := ∃ (p dp : Nat) (e : Bool) (x4 x5 x6 x7 : Kd), ρ = [.dat (.str z), .dat (.int (dp : Int)), .dat (.int (p : Int)), .dat (.bool e), x4, x5, x6, x7, .un] ∧ n ≤ p ∧ p ≤ z.length ∧ RdS z e dp p
section
variable {K : PySem.W.Frag} {D : Addr} {vs : List V} {H : Hp} {Q : VK} {E : XK}
theorem go_law_reads (h : sp_law_reads K vs H Q E) : t_law_reads K { nx := fun _ H' => Q .non H', rt := Q } (L2.start ["text", "depth", "at", "ended", "turn", "sign", "end", "word", "one"] vs) H := by
  refine sp_body ?_ h
  rintro H E ks S Z ⟨z, rfl, hz, rfl, rfl⟩ n _
  change BS ⟨K, noF, noJ, H, false, [], E, noZ⟩ _ [.dat (.str z), .un, .un, .un, .un, .un, .un, .un, .un] _
  generalize hC : (⟨K, noF, noJ, H, false, [], E, noZ⟩ : Ct) = C
  have hK : C.K = K := by rw [← hC]
  rw [← hK]
  have hzs : z.length ≤ sizeLine := Nat.le_trans hz (by decide)
  have ok : ∀ b : Bool, (b = true ↔ Rdg z) → ∃ b' : Bool, (b' = true ↔ Rdg z) ∧ Kd.dat (.bool b) = .dat (.bool b') := fun b hb => ⟨b, hb, rfl⟩
  have eln : ∀ {ρ : List Kd}, ρ[0]? = some (.dat (.str z)) → E1 C (tCB (rLenP C.K) (tCons (tVar 0) tNil)) ρ (.dat (.int z.length)) := fun h0 => e_cb1 (a_cons (e_var h0) a_nil) (c_lenS hzs)
  refine q_asg e_int (q_asg e_int (q_asg e_bl (b_seq ?_)))
  have last : ∀ (P : Po), (∀ b : Bool, (b = true ↔ Rdg z) → P.rt (.dat (.bool b))) → ∀ ρ, RI z z.length ρ → BS C (tRet (tAndV (tVar 3) (tAndV (tOp (rEqP C.K) (tVar 1) (tC (.int 0))) (tOp (rEqP C.K) (tVar 2) (tCB (rLenP C.K) (tCons (tVar 0) tNil)))))) ρ P := by
    rintro P hP _ ⟨p, dp, e, x4, x5, x6, x7, rfl, h1, h2, h3⟩
    have hpl : p = z.length := by omega
    refine b_ret (d := .bool (e && (decide ((dp : Int) = 0) && decide ((p : Int) = z.length)))) (e_and (e_var rfl) fun _ => e_and (e_op1 (e_var rfl) e_int k_eq_i) fun _ => e_op1 (e_var rfl) (eln rfl) k_eq_i) rfl (hP _ ?_)
    rw [hpl, decide_eq_true rfl, Bool.and_true]
    exact rst_end h3 (by omega)
  refine b_forR (w_rng1 (m := z.length) (a_cons (eln rfl) a_nil) (by omega)) (RI z) ⟨0, 0, false, .un, .un, .un, .un, rfl, Nat.le_refl _, Nat.zero_le _, [], .none, rfl, by decide, by simp [Rdg]⟩ ?_ (fun ρ h => last _ ok ρ (by simpa using h))
  rintro n _ hn ⟨p, dp, e, x4, x5, x6, x7, rfl, h1, h2, hst⟩
  refine q_when (T := fun b => b = decide ((p : Int) = z.length)) (t_test (e_op1 (e_var rfl) (eln rfl) k_eq_i)) (fun hb => b_break (last _ ok _ ⟨p, dp, e, .dat (.int (0 + (n : Int))), x5, x6, x7, rfl, ?_, h2, hst⟩)) (fun hb => ?_)
  · have := of_decide_eq_true hb.symm
    omega
  have hlt : p < z.length := by
    have := of_decide_eq_false hb.symm
    omega
  have hpl : p < (tl z).length := by rw [← len_tl]; exact hlt
  obtain ⟨c, hc⟩ : ∃ c, (tl z)[p]? = some c := ⟨_, List.getElem?_eq_getElem hpl⟩
  have hcs : (tl z).drop p = c :: (tl z).drop (p + 1) := by
    rw [List.getElem?_eq_getElem hpl] at hc
    rw [List.drop_eq_getElem_cons hpl, Option.some.inj hc]
  obtain ⟨st, v, hl, h60, hiff⟩ := hst
  rw [hcs] at hiff
  refine q_asg (d := .str (sg (some c))) (e_op1 (e_var rfl) (e_var rfl) (k_ixS hzs (at_nat hc))) ?_
  refine q_asg (d := .int ((p + 1 : Nat) : Int)) (e_op1 (e_var rfl) e_int k_add_i) ?_
  have no : ∀ (ρ : List Kd) (P : Po), (∀ b : Bool, (b = true ↔ Rdg z) → P.rt (.dat (.bool b))) → ¬ Rdg z → BS C (tRet (tC (.bl false))) ρ P := fun ρ P hP hn => b_ret e_bl rfl (hP false ⟨fun h => (Bool.false_ne_true h).elim, fun h => (hn h).elim⟩)
  have tsg : ∀ {ρ : List Kd} (x : Str) (d : Nat), ρ[5]? = some (.dat (.str (sg (some c)))) → tl x = [d] → E1 C (tOp (rEqP C.K) (tVar 5) (tC (.str x))) ρ (.dat (.bool (decide (c = d)))) := fun {ρ} x d h5 hx =>
    (e_op1 (e_var h5) e_str k_eq_s).is (by
      rw [sgeq _ hx]
      congr 2
      exact decide_eq_decide.mpr ⟨fun h => Option.some.inj h, fun h => by rw [h]⟩)
  -- the end of a turn
  have fin : ∀ (P : Po), P.nx = RI z (n + 1) → ∀ (q dp' : Nat) (e' : Bool) (x7 : Kd), p < q → q ≤ z.length → RdS z e' dp' q → BS C (tAsg (tVar 6) (gName 2)) [.dat (.str z), .dat (.int (dp' : Int)), .dat (.int (p : Int)), .dat (.bool e'), .dat (.int (0 + (n : Int))), .dat (.str (sg (some c))), .dat (.int (q : Int)), x7, .un] P := by
    intro P hP q dp' e' x7 g1 g2 g3
    refine b_asg (S := fun k => k = .dat (.int (q : Int))) (e_var rfl) ?_
    rintro _ rfl
    show P.nx _
    rw [hP]
    exact ⟨q, dp', e', _, _, _, _, rfl, by omega, g2, g3⟩
  refine q_if (T := fun b => b = e) (t_tru (e_var rfl) rfl) (fun he => ?_) (fun he => ?_)
  · -- a value has ended
    subst he
    rw [if_pos rfl] at hiff
    refine q_when (T := fun b => b = (decide ((dp : Int) = 0) || !decide (c = 44))) (t_or (t_test (e_op1 (e_var rfl) e_int k_eq_i)) fun _ => t_test ((e_op1 (e_var rfl) e_str k_ne_s).is (by rw [sgeq _ com1]; congr 3; exact decide_eq_decide.mpr ⟨fun h => Option.some.inj h, fun h => by rw [h]⟩))) (fun hb => no _ _ ok ?_) (fun hb => ?_)
    · rw [hiff]
      rintro ⟨d, hd⟩
      cases st with
      | nil => exact absurd hd.1 (by simp)
      | cons top st =>
        obtain ⟨r', e, _⟩ := hd
        injection e with e _
        have hdp : dp ≠ 0 := by rw [← hl]; simp
        simp [hdp, e] at hb
    · have hb2 := hb.symm
      rw [Bool.or_eq_false_iff] at hb2
      have hdp : dp ≠ 0 := by
        have := of_decide_eq_false hb2.1
        omega
      have hc44 : c = 44 := by simpa using hb2.2
      cases st with
      | nil => exact absurd hl.symm hdp
      | cons top st =>
        refine b_asg (S := fun k => k = .dat (.bool false)) e_bl ?_
        rintro _ rfl
        refine fin _ rfl (p + 1) dp false _ (Nat.lt_succ_self _) hlt ⟨(top ++ [v]) :: st, v, hl, h60, ?_⟩
        rw [hiff, hc44]
        simp only [Bool.false_eq_true, if_false]
        constructor
        · rintro ⟨d, r', e, h⟩
          injection e with _ e
          exact ⟨d, by rw [e]; exact h⟩
        · rintro ⟨d, h⟩
          exact ⟨d, _, rfl, h⟩
  · -- a value is due
    subst he
    simp only [Bool.false_eq_true, if_false] at hiff
    have hat : c ≠ 40 → (c ≠ 41 ∨ st = []) → (Rdg z ↔ ∃ v r, Atm (c :: (tl z).drop (p + 1)) v r ∧ ∃ d, Fin_ st v r d) := fun n40 n41 => by
      rw [hiff]
      constructor
      · rintro ⟨d, hd⟩
        obtain ⟨v, r, a, f⟩ := (par_at (by simpa using n40) (by simpa using n41)).mp hd
        exact ⟨v, r, a, d, f⟩
      · rintro ⟨v, r, a, d, f⟩
        exact ⟨d, (par_at (by simpa using n40) (by simpa using n41)).mpr ⟨v, r, a, f⟩⟩
    refine b_if (T := fun b => b = decide (c = 40)) (t_test (tsg "(" 40 rfl par1)) (fun hb => ?_) (fun hb => ?_)
    · have hc40 : c = 40 := of_decide_eq_true hb.symm
      subst hc40
      refine q_asg (d := .int ((dp + 1 : Nat) : Int)) (e_op1 (e_var rfl) e_int k_add_i) ?_
      refine b_if (T := fun b => b = decide ((60 : Int) < ((dp + 1 : Nat) : Int))) (t_test (e_op1 (e_var rfl) e_int k_gt)) (fun hb => no _ _ ok ?_) (fun hb => b_next ?_)
      · have := of_decide_eq_true hb.symm
        rw [hiff]
        rintro ⟨d, hd⟩
        have := (par_op.mp hd).1
        omega
      · have := of_decide_eq_false hb.symm
        refine fin _ rfl (p + 1) (dp + 1) false _ (Nat.lt_succ_self _) hlt ⟨[] :: st, v, by rw [List.length_cons, hl], by omega, ?_⟩
        rw [hiff]
        simp only [Bool.false_eq_true, if_false]
        exact ⟨fun ⟨d, hd⟩ => ⟨d, (par_op.mp hd).2⟩, fun ⟨d, hd⟩ => ⟨d, par_op.mpr ⟨by omega, hd⟩⟩⟩
    have n40 : c ≠ 40 := of_decide_eq_false hb.symm
    refine q_asg e_bl ?_
    refine b_if (T := fun b => b = decide (c = 41)) (t_test (tsg ")" 41 rfl par2)) (fun hb => ?_) (fun hb => ?_)
    · have hc41 : c = 41 := of_decide_eq_true hb.symm
      refine q_asg (d := .int ((dp : Int) - 1)) (e_op1 (e_var rfl) e_int k_sub_i) ?_
      refine b_if (T := fun b => b = decide ((dp : Int) - 1 < 0)) (t_test (e_op1 (e_var rfl) e_int k_lt)) (fun hb => no _ _ ok ?_) (fun hb => b_next ?_)
      · have := of_decide_eq_true hb.symm
        have hst : st = [] := List.length_eq_zero_iff.mp (by omega)
        rw [hat n40 (.inr hst)]
        rintro ⟨v, r, a, _⟩
        obtain ⟨c', w, e, _, n⟩ := atm_suf a
        injection e with e _
        exact n (e.symm.trans hc41)
      · have := of_decide_eq_false hb.symm
        cases hst : st with
        | nil =>
          rw [hst] at hl
          simp at hl
          omega
        | cons top st' =>
          subst hst
          have e1 : ((dp : Int) - 1) = ((dp - 1 : Nat) : Int) := by omega
          rw [e1]
          refine fin _ rfl (p + 1) (dp - 1) true _ (Nat.lt_succ_self _) hlt ⟨st', .tuple top, by rw [← hl]; rfl, by omega, ?_⟩
          rw [hiff, hc41]
          simp only [if_true]
          exact ⟨fun ⟨d, hd⟩ => ⟨d, par_cl.mp hd⟩, fun ⟨d, hd⟩ => ⟨d, par_cl.mpr hd⟩⟩
    have n41 : c ≠ 41 := of_decide_eq_false hb.symm
    have hat := hat n40 (.inl n41)
    refine b_if (T := fun b => b = decide (c = 34)) (t_test (tsg "\"" 34 rfl quo)) (fun hb => ?_) (fun hb => ?_)
    · have hc34 : c = 34 := of_decide_eq_true hb.symm
      subst hc34
      have fc := find_cases (z := z) (p := p + 1) hlt
      refine q_asg (d := .int (Txt.find3 z "\"" ((p + 1 : Nat) : Int) + 1)) (e_op1 (e_find3 (e_var rfl) e_str (e_op1 (e_var rfl) e_int k_add_i)) e_int k_add_i) ?_
      have pp : ((p : Int) + 1) = ((p + 1 : Nat) : Int) := by omega
      rcases fc with ⟨f1, f2⟩ | ⟨w, r, f1, f2, f3⟩
      · rw [f1]
        have cut : cutS z (some ((p + 1 : Nat) : Int)) (some ((p + 1 : Nat) : Int)) = ⟨#[]⟩ := by
          rw [cut_sub (Nat.le_refl _) hlt]
          simp
        have e3 : E1 C (tSl (rSlP C.K) (tVar 0) (tPart (tOp (rAddP C.K) (tVar 2) (tC (.int 1)))) (tPart (tCB rMax2 (tCons (tOp rSubI (tVar 6) (tC (.int 1))) (tCons (tOp (rAddP C.K) (tVar 2) (tC (.int 1))) tNil))))) [.dat (.str z), .dat (.int (dp : Int)), .dat (.int (p : Int)), .dat (.bool true), .dat (.int (0 + (n : Int))), .dat (.str (sg (some 34))), .dat (.int (-1 + 1)), x7, .un] (.dat (.str ⟨#[]⟩)) := by
          have q := e_slS (C := C) (z := z) (ρ := [.dat (.str z), .dat (.int (dp : Int)), .dat (.int (p : Int)), .dat (.bool true), .dat (.int (0 + (n : Int))), .dat (.str (sg (some 34))), .dat (.int (-1 + 1)), x7, .un]) (te := tVar 0) (e_var rfl) (o_some (te := tOp (rAddP C.K) (tVar 2) (tC (.int 1))) (e_op1 (e_var rfl) e_int k_add_i)) (o_some (te := tCB rMax2 (tCons (tOp rSubI (tVar 6) (tC (.int 1))) (tCons (tOp (rAddP C.K) (tVar 2) (tC (.int 1))) tNil))) (e_cb1 (a_cons (e_op1 (e_var rfl) e_int k_sub_i) (a_cons (e_op1 (e_var rfl) e_int k_add_i) a_nil)) c_max)) hzs
          rw [show (if ((p : Int) + 1) > (-1 + 1 - 1) then ((p : Int) + 1) else (-1 + 1 - 1)) = ((p + 1 : Nat) : Int) by rw [if_pos (by omega)]; omega, pp, cut] at q
          exact q
        refine q_asg e3 ?_
        refine b_if (T := fun b => b = true) ((t_or (a := decide ((-1 + 1 : Int) = 0)) (b := false) (t_test (e_op1 (e_var rfl) e_int k_eq_i)) fun h => by simp at h).is rfl) (fun _ => no _ _ ok ?_) (fun h => by cases h)
        rw [hat]
        rintro ⟨v, r, a, _⟩
        rcases atm_of a with ⟨e, _⟩ | ⟨w, e, hw, _⟩ | ⟨m, e, _, _, _⟩
        · injection e with e _
          cases e
        · injection e with _ e
          rw [e] at f2
          exact f2 (by simp)
        · obtain ⟨c', w, e2⟩ := List.exists_cons_of_ne_nil (numL_ne m)
          have := numL_digits m c' (by rw [e2]; exact List.mem_cons_self)
          rw [e2] at e
          injection e with e _
          omega
      · have hlen := len_drop f1 hlt
        rw [List.length_cons] at hlen
        have e0 : Txt.find3 z "\"" ((p + 1 : Nat) : Int) + 1 = ((p + 1 + w.length + 1 : Nat) : Int) := by rw [f3]; omega
        rw [e0]
        have cut : cutS z (some ((p + 1 : Nat) : Int)) (some ((p + 1 + w.length : Nat) : Int)) = ⟨w.toArray⟩ := by
          rw [cut_sub (Nat.le_add_right _ _) (by omega), f1, Nat.add_sub_cancel_left, List.take_left]
        have e3 : E1 C (tSl (rSlP C.K) (tVar 0) (tPart (tOp (rAddP C.K) (tVar 2) (tC (.int 1)))) (tPart (tCB rMax2 (tCons (tOp rSubI (tVar 6) (tC (.int 1))) (tCons (tOp (rAddP C.K) (tVar 2) (tC (.int 1))) tNil))))) [.dat (.str z), .dat (.int (dp : Int)), .dat (.int (p : Int)), .dat (.bool true), .dat (.int (0 + (n : Int))), .dat (.str (sg (some 34))), .dat (.int ((p + 1 + w.length + 1 : Nat) : Int)), x7, .un] (.dat (.str ⟨w.toArray⟩)) := by
          have q := e_slS (C := C) (z := z) (ρ := [.dat (.str z), .dat (.int (dp : Int)), .dat (.int (p : Int)), .dat (.bool true), .dat (.int (0 + (n : Int))), .dat (.str (sg (some 34))), .dat (.int ((p + 1 + w.length + 1 : Nat) : Int)), x7, .un]) (te := tVar 0) (e_var rfl) (o_some (te := tOp (rAddP C.K) (tVar 2) (tC (.int 1))) (e_op1 (e_var rfl) e_int k_add_i)) (o_some (te := tCB rMax2 (tCons (tOp rSubI (tVar 6) (tC (.int 1))) (tCons (tOp (rAddP C.K) (tVar 2) (tC (.int 1))) tNil))) (e_cb1 (a_cons (e_op1 (e_var rfl) e_int k_sub_i) (a_cons (e_op1 (e_var rfl) e_int k_add_i) a_nil)) c_max)) hzs
          rw [show (if ((p : Int) + 1) > (((p + 1 + w.length + 1 : Nat) : Int) - 1) then ((p : Int) + 1) else (((p + 1 + w.length + 1 : Nat) : Int) - 1)) = ((p + 1 + w.length : Nat) : Int) by split <;> omega, pp, cut] at q
          exact q
        refine q_asg e3 ?_
        have t2 : T1 C (tOr (tTest (tOp (rEqP C.K) (tVar 6) (tC (.int 0)))) (tTest (tOp rGtI (tCB (rLenP C.K) (tCons (tLc (iStr (tVar 7)) (gName 8) (tTest (tOp rNotInS (tVar 8) (tC (.str "abcdefghijklmnopqrstuvwxyz")))) (tVar 8) [8]) tNil)) (tC (.int 0))))) [.dat (.str z), .dat (.int (dp : Int)), .dat (.int (p : Int)), .dat (.bool true), .dat (.int (0 + (n : Int))), .dat (.str (sg (some 34))), .dat (.int ((p + 1 + w.length + 1 : Nat) : Int)), .dat (.str ⟨w.toArray⟩), .un] (false || !w.all ltr) := by
          refine t_or ((t_test (e_op1 (e_var rfl) e_int k_eq_i)).is (decide_eq_false (by omega))) fun _ => t_test ?_
          have sl : (signs ⟨w.toArray⟩).length ≤ sizeLine := by
            have : (signs ⟨w.toArray⟩).length = w.length := by simp [signs]
            rw [this]
            omega
          have q := e_lcFil (C := C) (j := 8) (te := tVar 8) (tt := tTest (tOp rNotInS (tVar 8) (tC (.str "abcdefghijklmnopqrstuvwxyz")))) id bd (i_strS (C := C) (ρ := [.dat (.str z), .dat (.int (dp : Int)), .dat (.int (p : Int)), .dat (.bool true), .dat (.int (0 + (n : Int))), .dat (.str (sg (some 34))), .dat (.int ((p + 1 + w.length + 1 : Nat) : Int)), .dat (.str ⟨w.toArray⟩), .un]) (te := tVar 7) (e_var rfl)) rfl sl (fun n a ha => ?_) (fun n a ha _ => ?_)
          · rw [List.map_id] at q
            refine (e_op1 (e_cb1 (a_cons q a_nil) (c_len rfl)) e_int k_gt).is ?_
            rw [bad_len]
          · unfold signs at ha
            rw [List.getElem?_map] at ha
            cases hb : (tl ⟨w.toArray⟩)[n]? with
            | none => rw [hb] at ha; cases ha
            | some c' =>
              rw [hb] at ha
              cases ha
              exact t_test ((e_op1 (e_var rfl) e_str k_ninS).is (by rw [mem_ltrs]; rfl))
          · unfold signs at ha
            rw [List.getElem?_map] at ha
            cases hb : (tl ⟨w.toArray⟩)[n]? with
            | none => rw [hb] at ha; cases ha
            | some c' =>
              rw [hb] at ha
              cases ha
              exact ⟨e_var rfl, rfl⟩
        refine b_if (T := fun b => b = (false || !w.all ltr)) t2 (fun hb => no _ _ ok ?_) (fun hb => b_next ?_)
        · have hw : w.all ltr = false := by simpa using hb.symm
          rw [hat]
          rintro ⟨v, r', a, _⟩
          rcases atm_of a with ⟨e, _⟩ | ⟨w', e, hw', _⟩ | ⟨m, e, _, _, _⟩
          · injection e with e _
            cases e
          · injection e with _ e
            rw [f1] at e
            obtain ⟨rfl, _⟩ := split34 e f2 (not34 hw')
            rw [hw] at hw'
            cases hw'
          · obtain ⟨c', w2, e2⟩ := List.exists_cons_of_ne_nil (numL_ne m)
            have := numL_digits m c' (by rw [e2]; exact List.mem_cons_self)
            rw [e2] at e
            injection e with e _
            omega
        · have hw : w.all ltr = true := by simpa using hb.symm
          have hd2 : (tl z).drop (p + 1 + w.length + 1) = r := by
            rw [show p + 1 + w.length + 1 = (p + 1) + (w.length + 1) by omega, ← List.drop_drop, f1, ← List.drop_drop, List.drop_left]
            rfl
          refine fin _ rfl (p + 1 + w.length + 1) dp true _ (by omega) (by omega) ⟨st, .str ⟨w.toArray⟩, hl, h60, ?_⟩
          rw [hat, hd2]
          simp only [if_true]
          constructor
          · rintro ⟨v', r', a, f⟩
            have a2 : Atm (34 :: (tl z).drop (p + 1)) (.str ⟨w.toArray⟩) r := by rw [f1]; exact .str hw
            obtain ⟨rfl, rfl⟩ := atm_det a a2
            exact f
          · exact fun f => ⟨_, _, by rw [f1]; exact .str hw, f⟩
    have n34 : c ≠ 34 := of_decide_eq_false hb.symm
    refine b_if (T := fun b => b = fig c) (t_test ((e_op1 (x := .dat (.str ⟨#[c]⟩)) (e_var rfl) e_str k_inS).is (by rw [mem_digs]))) (fun hb => ?_) (fun hb => ?_)
    · have hfc : fig c = true := hb.symm
      have hfc2 := hfc
      simp [fig] at hfc2
      have htw : ((tl z).drop p).takeWhile fig = c :: ((tl z).drop (p + 1)).takeWhile fig := by rw [hcs, List.takeWhile_cons, if_pos hfc]
      have hle := tw_len (p := fig) h2
      have htl : tw fig z p = c :: ((tl z).drop (p + 1)).takeWhile fig := htw
      generalize hk : (tw fig z p).length = k at hle
      have hk1 : 1 ≤ k := by rw [← hk, htl]; simp
      have cutp : cutS z (some (p : Int)) none = ⟨((tl z).drop p).toArray⟩ := by
        refine ext_tl ?_
        show ((z.cps.toList.drop (HT.sIx z.length 0 (some (p : Int)))).take (HT.sIx z.length z.length none - HT.sIx z.length 0 (some (p : Int)))) = _
        rw [HT.sIx_nat, HT.sIx_none, Nat.min_eq_left h2, List.take_of_length_le]
        rw [List.length_drop, ← len_tl]
        exact Nat.le_refl _
      have cl : (⟨((tl z).drop p).toArray⟩ : Str).length = z.length - p := by rw [len_tl]; show ((tl z).drop p).length = _; rw [List.length_drop, ← len_tl]
      have es : E1 C (tSl (rSlP C.K) (tVar 0) (tPart (tVar 2)) tNoPart) [.dat (.str z), .dat (.int (dp : Int)), .dat (.int (p : Int)), .dat (.bool true), .dat (.int (0 + (n : Int))), .dat (.str (sg (some c))), .dat (.int ((p + 1 : Nat) : Int)), x7, .un] (.dat (.str ⟨((tl z).drop p).toArray⟩)) :=
        (e_slS (C := C) (z := z) (te := tVar 0) (e_var rfl) (o_some (te := tVar 2) (i := (p : Int)) (e_var rfl)) o_none hzs).is (by rw [cutp])
      have ll : (Txt.lstripChars (⟨((tl z).drop p).toArray⟩ : Str) "0123456789").length = z.length - p - k := by
        rw [lstrip_len, cl, ← hk]
        rfl
      refine q_asg (d := .int ((p + k : Nat) : Int)) ((e_op1 (e_op1 (e_var rfl) (e_cb1 (a_cons es a_nil) (c_lenS (by rw [cl]; omega))) k_add_i) (e_cb1 (a_cons (e_lstripC es e_str (by rw [cl]; omega)) a_nil) (c_lenS (by rw [ll]; omega))) k_sub_i).is ?_) ?_
      · rw [ll, cl]
        congr 2
        omega
      have t3 : T1 C (tOr (tTest (tOp rGtI (tOp rSubI (tVar 6) (tVar 2)) (tC (.int 40)))) (tAnd (tTest (tOp rGtI (tOp rSubI (tVar 6) (tVar 2)) (tC (.int 1)))) (tTest (tOp (rEqP C.K) (tVar 5) (tC (.str "0")))))) [.dat (.str z), .dat (.int (dp : Int)), .dat (.int (p : Int)), .dat (.bool true), .dat (.int (0 + (n : Int))), .dat (.str (sg (some c))), .dat (.int ((p + k : Nat) : Int)), x7, .un] (decide (40 < k) || (decide (1 < k) && decide (c = 48))) :=
        t_or ((t_test (e_op1 (e_op1 (e_var rfl) (e_var rfl) k_sub_i) e_int k_gt)).is (decide_eq_decide.mpr (by omega))) fun _ => t_and ((t_test (e_op1 (e_op1 (e_var rfl) (e_var rfl) k_sub_i) e_int k_gt)).is (decide_eq_decide.mpr (by omega))) fun _ => t_test (tsg "0" 48 rfl (by decide +kernel))
      have nums : (decide (40 < k) || (decide (1 < k) && decide (c = 48))) = false ↔ nmv ((tl z).drop p) ≠ .none := by
        have hall : (((tl z).drop p).takeWhile fig).all fig = true := List.all_takeWhile
        have hl2 : (⟨(((tl z).drop p).takeWhile fig).toArray⟩ : Str).length = k := by rw [len_tl, ← hk]; rfl
        have harf : arf (((tl z).drop p).takeWhile fig) = !(decide (1 < k) && decide (c = 48)) := by
          unfold arf
          rw [hall, Bool.true_and, htw]
          by_cases hc48 : c = 48
          · subst hc48
            have : k = 1 + (((tl z).drop (p + 1)).takeWhile fig).length := by rw [← hk, htl, List.length_cons]; omega
            by_cases hk2 : 1 < k
            · have hne : ((tl z).drop (p + 1)).takeWhile fig ≠ [] := fun e => by
                rw [e] at this
                simp at this
                omega
              simp [hk2, hne]
            · have he : ((tl z).drop (p + 1)).takeWhile fig = [] := List.length_eq_zero_iff.mp (by omega)
              simp [hk2, he]
          · simp [hc48]
        unfold nmv numV
        rw [hl2, harf]
        have e40 : decide ((40 : Int) < (k : Int)) = decide (40 < k) := decide_eq_decide.mpr (by omega)
        rw [e40, Bool.not_not]
        generalize (decide (40 < k) || (decide (1 < k) && decide (c = 48))) = b
        cases b <;> simp
      refine b_if (T := fun b => b = (decide (40 < k) || (decide (1 < k) && decide (c = 48)))) t3 (fun hb => no _ _ ok ?_) (fun hb => b_next ?_)
      · have hn : nmv ((tl z).drop p) = .none := Classical.byContradiction fun h => by
          have := nums.mpr h
          rw [this] at hb
          cases hb
        rw [hat]
        rintro ⟨v, r, a, _⟩
        rw [← hcs] at a
        rcases atm_of a with ⟨e, _⟩ | ⟨w', e, hw', _⟩ | ⟨m, e, g1, g2, _⟩
        · rw [hcs] at e
          injection e with e _
          omega
        · rw [hcs] at e
          injection e with e _
          exact n34 e
        · exact (num_iff _).mp ⟨m, r, e, g1, g2⟩ hn
      · have hn := nums.mp hb.symm
        obtain ⟨m, r, g0, g1, g2⟩ := (num_iff _).mpr hn
        have hfa : (numL m).all fig = true := List.all_eq_true.mpr fun c hc => by
          have := numL_digits m c hc
          simp [fig]
          exact this
        have hkm : k = (numL m).length := by
          rw [← hk]
          show (((tl z).drop p).takeWhile fig).length = _
          rw [g0, tw_stop2 hfa g2]
        have hd2 : (tl z).drop (p + k) = r := by rw [← List.drop_drop, g0, hkm, List.drop_left]
        refine fin _ rfl (p + k) dp true _ (by omega) hle ⟨st, .int (m : Int), hl, h60, ?_⟩
        rw [hat, hd2]
        simp only [if_true]
        have am : Atm (c :: (tl z).drop (p + 1)) (.int (m : Int)) r := by rw [← hcs, g0]; exact .num g1 g2
        constructor
        · rintro ⟨v', r', a, f⟩
          obtain ⟨rfl, rfl⟩ := atm_det a am
          exact f
        · exact fun f => ⟨_, _, am, f⟩
    · have hfc : fig c = false := hb.symm
      refine b_if (T := fun b => b = !decide (c = 45)) (t_test ((e_op1 (e_var rfl) e_str k_ne_s).is (by rw [sgeq _ minus]; congr 3; exact decide_eq_decide.mpr ⟨fun h => Option.some.inj h, fun h => by rw [h]⟩))) (fun hb => no _ _ ok ?_) (fun hb => b_next ?_)
      · have n45 : c ≠ 45 := by simpa using hb.symm
        rw [hat]
        rintro ⟨v, r, a, _⟩
        rcases atm_of a with ⟨e, _⟩ | ⟨w', e, hw', _⟩ | ⟨m, e, g1, g2, _⟩
        · injection e with e _
          exact n45 e
        · injection e with e _
          exact n34 e
        · obtain ⟨c', w2, e2⟩ := List.exists_cons_of_ne_nil (numL_ne m)
          have := numL_digits m c' (by rw [e2]; exact List.mem_cons_self)
          rw [e2] at e
          injection e with e _
          rw [e] at hfc
          simp [fig] at hfc
          omega
      · have hc45 : c = 45 := by simpa using hb.symm
        subst hc45
        refine fin _ rfl (p + 1) dp true _ (Nat.lt_succ_self _) hlt ⟨st, .none, hl, h60, ?_⟩
        rw [hat]
        simp only [if_true]
        constructor
        · rintro ⟨v', r', a, f⟩
          obtain ⟨rfl, rfl⟩ := atm_det a .non
          exact f
        · exact fun f => ⟨_, _, .non, f⟩
end
end Mh
namespace Mh
open PySem PySem.Spec PyProof.Rows L2 TL
/-! ### told texts as data; the laws' _law_same -/
def X (d : PyData) : Str := ⟨(txt d).toArray⟩
def sp_law_same (K : PySem.W.Frag) : Sp := SpP K A_same
def t_law_same := t_same
section
variable {K : PySem.W.Frag} {vs : List V} {H : Hp} {Q : VK} {E : XK}
theorem sb_body {K : PySem.W.Frag} {t : TS} {A : Addr → At} {vs : List V} {Q : VK} {E : XK} {N : List Str} {H : Hp}
    (h : ∀ b g c H E ks S Z, A b ks S Z → ∀ n, ks.length + n = N.length ∨ N.length ≤ ks.length → InB ⟨K, BF b g c, BJ b g c, H, true, [], E, Z⟩ b → BS ⟨K, BF b g c, BJ b g c, H, true, [], E, Z⟩ t (ks ++ List.replicate (N.length - ks.length) .un) { rt := S, nx := fun _ => S (.dat .none) }) (q : spB K A vs H Q E) :
    t { nx := fun _ H' => Q .non H', rt := Q } (L2.start N vs) H := by
  obtain ⟨b, g, c, q⟩ := q
  exact sp_body (fun H E ks S Z a n hn => h b g c H E ks S Z a n hn ⟨g, c, rfl, rfl⟩) q
theorem go_law_same (h : sp_law_same K vs H Q E) : t_law_same K { nx := fun _ H' => Q .non H', rt := Q } (L2.start ["due", "got"] vs) H := by
  refine sp_body ?_ h
  rintro H E ks S Z ⟨d, e, rfl, h1, h2, rfl, rfl⟩ n _
  exact b_same (C := ⟨K, noF, noJ, H, false, [], E, noZ⟩) h1 h2 rfl
theorem at_set {α : Type} {xs : List α} {n : Nat} {i : Int} (hl : xs.length = n) (h0 : 0 ≤ i) (h1 : i < n) : ∃ u, atI xs i = some u ∧ u ∈ xs := by
  obtain ⟨u, e1, e2⟩ := at_int (xs := xs) h0 (by rw [hl]; exact h1)
  exact ⟨u, e1, List.mem_of_getElem? e2⟩
theorem X_tl (d : PyData) : tl (X d) = txt d := rfl
theorem X_len (d : PyData) : (X d).length = (txt d).length := by
  rw [len_tl]
  exact congrArg List.length (X_tl d)
theorem X_str {x : Str} {d : PyData} (h : tl x = txt d) : x = X d := ext_tl h
theorem gdAll_ne : ∀ ds : List PyData, ds.length ≤ (txtAll ds).length
  | [] => Nat.le_refl _
  | x :: xs => by
    have := gdAll_ne xs
    rw [txtAll, List.length_append, List.length_cons, List.length_cons]
    omega
theorem txtAll_flat (ds : List PyData) : ((ds.map fun d => X d ++ ",").map tl).flatten = txtAll ds := by
  induction ds with
  | nil => rfl
  | cons d ds ih =>
    rw [List.map_cons, List.map_cons, List.flatten_cons, ih, tl_append, com1, X_tl, txtAll]
    simp
theorem one_len : (("," : Str)).length = 1 ∧ (("(" : Str)).length = 1 ∧ ((")" : Str)).length = 1 := by decide +kernel
theorem txt_part {ds : List PyData} {n : Nat} {d : PyData} (h : ds[n]? = some d) : (txt d).length + 1 ≤ (txtAll ds).length := by
  have e := txtAll_app (ds.take n) (ds.drop n)
  rw [List.take_append_drop] at e
  have hl := (List.getElem?_eq_some_iff.mp h)
  obtain ⟨hn, hd⟩ := hl
  rw [List.drop_eq_getElem_cons hn, hd, txtAll] at e
  rw [e, List.length_append, List.length_append, List.length_cons]
  omega
theorem depAll_app (xs ys : List PyData) : depAll (xs ++ ys) = max (depAll xs) (depAll ys) := by
  induction xs with
  | nil => simp [depAll]
  | cons x xs ih => simp [depAll, ih, Nat.max_assoc]
theorem str_app_len (a b : Str) : (a ++ b).length = a.length + b.length := by
  rw [len_tl, tl_append, List.length_append, ← len_tl, ← len_tl]
theorem e_cat {C : Ct} {ρ : List Kd} {ta tb : TE} {a b : Str} (ha : E1 C ta ρ (.dat (.str a))) (hb : E1 C tb ρ (.dat (.str b))) (h : a.length + b.length ≤ 100000) : E1 C (tOp (rAddP C.K) ta tb) ρ (.dat (.str (a ++ b))) :=
  e_op1 ha hb (k_add_s (Nat.le_trans h (by decide)))
theorem e_strI {C : Ct} {ρ : List Kd} {ta : TE} {i : Int} (ha : E1 C ta ρ (.dat (.int i))) (h0 : 0 ≤ i) (h1 : i < 10 ^ 40) : E1 C (tCB rStrP (tCons ta tNil)) ρ (.dat (.str (X (.int i)))) :=
  (e_cb1 (a_cons ha a_nil) (c_str (log_lt h0 h1))).is (by rw [X_str (d := .int i) (num_str h0)])
theorem X_lt {d : PyData} (h : gd d = true) : ∀ c ∈ tl (X d), c < 128 := fun c hc => txt_lt d h c hc
theorem X_sh {d : PyData} (h : gd d = true) (hl : (txt d).length ≤ 90000) : ShOk (.str (X d)) := str_sh (X_lt h) (by rw [X_len]; omega)
theorem same_self {d : PyData} (h : SeqAt.shaped d = true) : (PyData.eqv d d && decide (d.shown = d.shown)) = true := by
  rw [SeqAt.eqv_refl d (SeqAt.canLay_of_shaped h), decide_eq_true rfl]
  rfl
theorem e_same {C : Ct} {ρ : List Kd} {ta tb : TE} {d : PyData} (ha : E1 C ta ρ (.dat d)) (hb : E1 C tb ρ (.dat d)) (h : ShOk d) : E1 C (tCall (sp_law_same C.K) [] E0 (tCons ta (tCons tb tNil))) ρ (.dat (.bool true)) :=
  e_callP (A := A_same) (S' := fun z => z = .dat (.bool (PyData.eqv d d && decide (d.shown = d.shown)))) (ks' := [.dat d, .dat d]) (a_cons ha (a_cons hb a_nil)) (.cons (.dat fun h => by cases h) (.cons (.dat fun h => by cases h) .nil)) ⟨d, d, rfl, h, h, rfl, rfl⟩ fun k hk => by rw [hk, same_self h.sh]
end
end Mh
namespace Mh
open PySem PySem.Spec PyProof.Rows L2 TL
def Asc (z : Str) : Prop := ∀ c ∈ tl z, c < 128
def A_ltext (b : Addr) : At := fun ks S Z => ks = [bx b] ∧ S = (fun k => ∃ d, gd d = true ∧ dep d ≤ 20 ∧ (txt d).length ≤ 4000 ∧ k = .dat (.str (X d))) ∧ Z = noZ
def sp_law_text (K : PySem.W.Frag) : Sp := spB K A_ltext
def A_lbent (b : Addr) : At := fun ks S Z => ∃ z : Str, ks = [bx b, .dat (.str z)] ∧ Asc z ∧ z.length ≤ 10000 ∧ S = (fun k => ∃ z' : Str, Asc z' ∧ z'.length ≤ z.length + 2 ∧ k = .dat (.str z')) ∧ Z = noZ
def sp_law_bent (K : PySem.W.Frag) : Sp := spB K A_lbent
def t_law_text (K : PySem.W.Frag) : TS := (tSeq (tAsg (tLst tNil) (gName 1))
  (tSeq (tFor (iRng1 (tCons (tOp (rAddP K) (tC (.int 1)) (tCall (sp_law_draw K) [] E0 (tCons (tVar 0) (tCons (tC (.int 12)) tNil)))) tNil)) (gName 2) (tSeq (tAsg (tCall (sp_law_draw K) [] E0 (tCons (tVar 0) (tCons (tC (.int 8)) tNil))) (gName 3))
  (tIfS (tTest (tOp rLtI (tVar 3) (tC (.int 3)))) (tDrop (tBM K "list" rAppend (tVar 1) (tCons (tOp (rIx K) (tLst (tCons (tC (.str "0")) (tCons (tC (.str "7")) (tCons (tC (.str "31")) (tCons (tC (.str "100")) (tCons (tC (.str "1234567890")) tNil)))))) (tCall (sp_law_draw K) [] E0 (tCons (tVar 0) (tCons (tC (.int 5)) tNil)))) tNil))) (tIfS (tTest (tOp (rEqP K) (tVar 3) (tC (.int 3)))) (tDrop (tBM K "list" rAppend (tVar 1) (tCons (tC (.str "-")) tNil))) (tIfS (tTest (tOp (rEqP K) (tVar 3) (tC (.int 4)))) (tDrop (tBM K "list" rAppend (tVar 1) (tCons (tOp (rAddP K) (tOp (rAddP K) (tC (.str "\"")) (tOp (rIx K) (tLst (tCons (tC (.str "")) (tCons (tC (.str "a")) (tCons (tC (.str "lay")) (tCons (tC (.str "mend")) (tCons (tC (.str "zz")) tNil)))))) (tCall (sp_law_draw K) [] E0 (tCons (tVar 0) (tCons (tC (.int 5)) tNil))))) (tC (.str "\""))) tNil))) (tSeq (tAsg (tCB rMin2 (tCons (tCall (sp_law_draw K) [] E0 (tCons (tVar 0) (tCons (tC (.int 4)) tNil))) (tCons (tCB (rLenP K) (tCons (tVar 1) tNil)) tNil))) (gName 4))
  (tSeq (tAsg (tM1 (rJoin K) (tC (.str "")) (tLc (iAny K (tSl (rSlP K) (tVar 1) (tPart (tOp rSubI (tCB (rLenP K) (tCons (tVar 1) tNil)) (tVar 4))) tNoPart)) (gName 6) tYes (tOp (rAddP K) (tVar 6) (tC (.str ","))) [6])) (gName 5))
  (tAsg (tOp (rAddP K) (tSl (rSlP K) (tVar 1) tNoPart (tPart (tOp rSubI (tCB (rLenP K) (tCons (tVar 1) tNil)) (tVar 4)))) (tLst (tCons (tOp (rAddP K) (tOp (rAddP K) (tC (.str "(")) (tVar 5)) (tC (.str ")"))) tNil))) (gName 1)))))))))
  (tSeq (tIfS (tTest (tOp (rEqP K) (tCB (rLenP K) (tCons (tVar 1) tNil)) (tC (.int 1)))) (tRet (tOp (rIx K) (tVar 1) (tC (.int 0)))) tNext)
  (tRet (tOp (rAddP K) (tOp (rAddP K) (tC (.str "(")) (tM1 (rJoin K) (tC (.str "")) (tLc (iAny K (tVar 1)) (gName 6) tYes (tOp (rAddP K) (tVar 6) (tC (.str ","))) [6]))) (tC (.str ")")))))))
def t_law_bent (K : PySem.W.Frag) : TS := (tSeq (tFor (iRng1 (tCons (tOp (rAddP K) (tC (.int 1)) (tCall (sp_law_draw K) [] E0 (tCons (tVar 0) (tCons (tC (.int 2)) tNil)))) tNil)) (gName 2) (tSeq (tAsg (tCall (sp_law_draw K) [] E0 (tCons (tVar 0) (tCons (tOp (rAddP K) (tCB (rLenP K) (tCons (tVar 1) tNil)) (tC (.int 1))) tNil))) (gName 3))
  (tSeq (tAsg (tLst (tCons (tC (.str "(")) (tCons (tC (.str ")")) (tCons (tC (.str ",")) (tCons (tC (.str "-")) (tCons (tC (.str "\"")) (tCons (tC (.str "0")) (tCons (tC (.str "1")) (tCons (tC (.str "a")) (tCons (tC (.str "A")) (tCons (tC (.str " ")) (tCons (tC (.str ".")) (tCons (tC (.str "+")) (tCons (tC (.str "[")) (tCons (tC (.str "'")) (tCons (tC (.str "\n")) (tCons (tC (.str "_")) tNil))))))))))))))))) (gName 4))
  (tSeq (tAsg (tOp (rIx K) (tVar 4) (tCall (sp_law_draw K) [] E0 (tCons (tVar 0) (tCons (tC (.int 16)) tNil)))) (gName 5))
  (tSeq (tAsg (tCall (sp_law_draw K) [] E0 (tCons (tVar 0) (tCons (tC (.int 3)) tNil))) (gName 6))
  (tIfS (tTest (tOp (rEqP K) (tVar 6) (tC (.int 0)))) (tAsg (tOp (rAddP K) (tSl (rSlP K) (tVar 1) tNoPart (tPart (tVar 3))) (tSl (rSlP K) (tVar 1) (tPart (tOp (rAddP K) (tVar 3) (tC (.int 1)))) tNoPart)) (gName 1)) (tIfS (tTest (tOp (rEqP K) (tVar 6) (tC (.int 1)))) (tAsg (tOp (rAddP K) (tOp (rAddP K) (tSl (rSlP K) (tVar 1) tNoPart (tPart (tVar 3))) (tVar 5)) (tSl (rSlP K) (tVar 1) (tPart (tVar 3)) tNoPart)) (gName 1)) (tAsg (tOp (rAddP K) (tOp (rAddP K) (tSl (rSlP K) (tVar 1) tNoPart (tPart (tVar 3))) (tVar 5)) (tSl (rSlP K) (tVar 1) (tPart (tOp (rAddP K) (tVar 3) (tC (.int 1)))) tNoPart)) (gName 1)))))))))
  (tRet (tVar 1)))
/-- parts told so far -/
def PT (b : Addr) (k : Nat) (ρ : List Kd) : Prop := ∃ (l : Addr) (ds : List PyData) (x2 x3 x4 x5 : Kd), ρ = [bx b, .own l ((ds.map X).map .str), x2, x3, x4, x5, .un] ∧ gdAll ds = true ∧ depAll ds ≤ k + 1 ∧ (txtAll ds).length ≤ 64 * k
theorem nums_ok : ∀ s ∈ [PyData.str "0", .str "7", .str "31", .str "100", .str "1234567890"], ∃ d, gd d = true ∧ dep d = 0 ∧ (txt d).length ≤ 20 ∧ s = .str (X d) := by
  intro s hs
  simp only [List.mem_cons, List.not_mem_nil, or_false] at hs
  rcases hs with rfl | rfl | rfl | rfl | rfl
  · exact ⟨.int 0, by decide +kernel, rfl, by decide +kernel, by rw [X_str (x := "0") (d := .int 0) (by decide +kernel)]⟩
  · exact ⟨.int 7, by decide +kernel, rfl, by decide +kernel, by rw [X_str (x := "7") (d := .int 7) (by decide +kernel)]⟩
  · exact ⟨.int 31, by decide +kernel, rfl, by decide +kernel, by rw [X_str (x := "31") (d := .int 31) (by decide +kernel)]⟩
  · exact ⟨.int 100, by decide +kernel, rfl, by decide +kernel, by rw [X_str (x := "100") (d := .int 100) (by decide +kernel)]⟩
  · exact ⟨.int 1234567890, by decide +kernel, rfl, by decide +kernel, by rw [X_str (x := "1234567890") (d := .int 1234567890) (by decide +kernel)]⟩
theorem ws_ok : ∀ s ∈ [PyData.str "", .str "a", .str "lay", .str "mend", .str "zz"], ∃ w : Str, s = .str w ∧ gd (.str w) = true ∧ w.length ≤ 4 := by
  intro s hs
  simp only [List.mem_cons, List.not_mem_nil, or_false] at hs
  rcases hs with rfl | rfl | rfl | rfl | rfl <;> exact ⟨_, rfl, by decide +kernel, by decide +kernel⟩
section
variable {K : PySem.W.Frag} {D : Addr} {vs : List V} {H : Hp} {Q : VK} {E : XK}
theorem q1_len : (("\"" : Str)).length = 1 := by decide +kernel
/-- the parts joined, a comma behind each -/
theorem e_commas {C : Ct} {ρ : List Kd} {te : TE} {k : Kd} {j : Nat} {ds : List PyData} (h : E1 C te ρ k) (hd : datK k = some (.list ((ds.map X).map .str))) (hj : notOwn ρ[j]? = true) (hjl : j < ρ.length) (hl : (txtAll ds).length ≤ 90000) :
    E1 C (tM1 (rJoin C.K) (tC (.str "")) (tLc (iAny C.K te) (gName j) tYes (tOp (rAddP C.K) (tVar j) (tC (.str ","))) [j])) ρ (.dat (.str ⟨(txtAll ds).toArray⟩)) := by
  have hdl := gdAll_ne ds
  have hz : ((ds.map X).map PyData.str).length ≤ sizeLine := by
    have := sl_big
    rw [List.length_map, List.length_map]
    omega
  have q := e_lcMap (C := C) (j := j) (te := tOp (rAddP C.K) (tVar j) (tC (.str ","))) (fun x => match x with | .str z => .str (z ++ ",") | d => d) (i_list h hd) hj hz (fun n a ha => by
    rw [List.getElem?_map, List.getElem?_map] at ha
    cases hb : ds[n]? with
    | none => rw [hb] at ha; cases ha
    | some d =>
      rw [hb] at ha
      cases ha
      have hp := txt_part hb
      refine ⟨e_cat (e_var (by rw [List.getElem?_set_self (by rw [List.length_set]; exact hjl)])) e_str ?_, rfl⟩
      rw [X_len, one_len.1]
      omega)
  have em : ((ds.map X).map PyData.str).map (fun x => match x with | .str z => PyData.str (z ++ ",") | d => d) = (ds.map fun d => X d ++ ",").map .str := by
    simp only [List.map_map]
    rfl
  rw [em] at q
  exact e_join0 q rfl (txtAll_flat ds) (by omega)
/-- .. in brackets -/
theorem e_brack {C : Ct} {ρ : List Kd} {te : TE} {ds : List PyData} (h : E1 C te ρ (.dat (.str ⟨(txtAll ds).toArray⟩))) (hl : (txtAll ds).length ≤ 90000) : E1 C (tOp (rAddP C.K) (tOp (rAddP C.K) (tC (.str "(")) te) (tC (.str ")"))) ρ (.dat (.str (X (.tuple ds)))) := by
  have hxl : ((⟨(txtAll ds).toArray⟩ : Str)).length = (txtAll ds).length := by rw [len_tl]
  have q4 := e_cat (C := C) (e_cat (C := C) (e_str (x := "(")) h (by rw [one_len.2.1, hxl]; omega)) (e_str (x := ")")) (by rw [str_app_len, one_len.2.1, one_len.2.2, hxl]; omega)
  exact q4.is (congrArg (fun z => Kd.dat (PyData.str z)) (X_str (by
    rw [tl_append, tl_append, par1, par2, txt]
    simp)))
theorem cut_to {xs : List PyData} {m : Nat} (h : m ≤ xs.length) : cutD xs none (some (((xs.length : Nat) : Int) - (m : Int))) = xs.take (xs.length - m) := by
  unfold cutD
  rw [show ((xs.length : Nat) : Int) - (m : Int) = ((xs.length - m : Nat) : Int) by omega, HT.sIx_none, HT.sIx_nat, List.drop_zero, Nat.sub_zero, Nat.min_eq_left (by omega)]
theorem cut_from {xs : List PyData} {m : Nat} (h : m ≤ xs.length) : cutD xs (some (((xs.length : Nat) : Int) - (m : Int))) none = xs.drop (xs.length - m) := by
  unfold cutD
  rw [show ((xs.length : Nat) : Int) - (m : Int) = ((xs.length - m : Nat) : Int) by omega, HT.sIx_none, HT.sIx_nat, Nat.min_eq_left (by omega), List.take_of_length_le]
  rw [List.length_drop]
  exact Nat.le_refl _
theorem go_law_text (h : sp_law_text K vs H Q E) : t_law_text K { nx := fun _ H' => Q .non H', rt := Q } (L2.start ["box", "parts", "step", "shape", "many", "inner", "part"] vs) H := by
  refine sb_body ?_ h
  rintro b g c H E ks S Z ⟨rfl, rfl, rfl⟩ n _ ib
  change BS _ _ [bx b, .un, .un, .un, .un, .un, .un] _
  generalize hC : (⟨K, BF b g c, BJ b g c, H, true, [], E, noZ⟩ : Ct) = C at ib
  have hK : C.K = K := by rw [← hC]
  have hfr : C.fr = true := by rw [← hC]
  rw [← hK]
  have big := sl_big
  refine q_asgN (e_lst a_nil rfl) fun l => b_seq ?_
  refine b_forS (M := fun m => 1 ≤ m ∧ m ≤ 12) (S := fun k => ∃ m : Int, 1 ≤ m ∧ m ≤ 12 ∧ k = .dat (.int m)) (e_op (S1 := fun k => k = .dat (.int 1)) e_int (e_draw ib rfl e_int (by decide) (by decide)) ?_) ?_ ?_
  · rintro _ _ rfl ⟨d, d0, d1, rfl⟩
    exact k_add_i.imp fun _ h => ⟨1 + d, by omega, by omega, h⟩
  · rintro _ ⟨m, m0, m1, rfl⟩
    exact ⟨m, rfl, by omega, by omega, m0, m1⟩
  rintro m wi' ⟨m0, m1⟩ hw
  refine b_forR hw (PT b) ⟨l, [], .un, .un, .un, .un, rfl, rfl, by simp [depAll], by simp [txtAll]⟩ ?_ ?_
  · rintro k _ hk ⟨l, ds, x2, x3, x4, x5, rfl, hg, hd, ht⟩
    have hdl := gdAll_ne ds
    have h64 : 64 * k ≤ 64 * 12 := by omega
    have hlen : ((ds.map X).map PyData.str).length < sizeLine := by
      rw [List.length_map, List.length_map]
      omega
    -- one more part
    have more : ∀ (x3 x4 x5 : Kd) (te : TE) (S : Kd → Prop) (P : Po), P.nx = PT b (k + 1) → EB C te [bx b, .own l ((ds.map X).map .str), .dat (.int (0 + (k : Int))), x3, x4, x5, .un] S → (∀ k', S k' → ∃ d, gd d = true ∧ dep d = 0 ∧ (txt d).length ≤ 20 ∧ k' = .dat (.str (X d))) →
        BS C (tDrop (tBM C.K "list" rAppend (tVar 1) (tCons te tNil))) [bx b, .own l ((ds.map X).map .str), .dat (.int (0 + (k : Int))), x3, x4, x5, .un] P := by
      intro x3 x4 x5 te S P hP he hS
      refine b_appS (i := 1) rfl he ?_
      intro k' hk'
      obtain ⟨d, d1, d2, d3, rfl⟩ := hS k' hk'
      refine ⟨hlen, _, .inl rfl, ?_⟩
      rw [hP]
      refine ⟨l, ds ++ [d], .dat (.int (0 + (k : Int))), x3, x4, x5, ?_, ?_, ?_, ?_⟩
      · rw [List.map_append, List.map_append]
        rfl
      · rw [gdAll_app, hg]
        simp [gdAll, d1]
      · rw [depAll_app]
        simp [depAll, d2]
        omega
      · rw [txtAll_app, List.length_append]
        simp [txtAll]
        omega
    refine q_asgS (e_draw ib rfl e_int (by decide) (by decide)) ?_
    rintro _ ⟨sh, s0, s1, rfl⟩
    refine b_if (T := fun b => b = decide (sh < 3)) (t_test (e_op1 (e_var rfl) e_int k_lt)) (fun _ => more _ _ _ _ (fun k => ∃ s, s ∈ [PyData.str "0", .str "7", .str "31", .str "100", .str "1234567890"] ∧ k = .dat s) _ rfl (e_op (S1 := fun k => k = .new [.str "0", .str "7", .str "31", .str "100", .str "1234567890"]) (e_lst (a_cons e_str (a_cons e_str (a_cons e_str (a_cons e_str (a_cons e_str a_nil))))) rfl) (e_draw ib rfl e_int (by decide) (by decide)) ?_) ?_) (fun _ => ?_)
    · rintro _ _ rfl ⟨d, d0, d1, rfl⟩
      obtain ⟨u, e1, e2⟩ := at_set (xs := [PyData.str "0", .str "7", .str "31", .str "100", .str "1234567890"]) (n := 5) rfl d0 d1
      exact (k_ix rfl e1).imp fun _ h => ⟨u, e2, h⟩
    · rintro _ ⟨s, hs, rfl⟩
      obtain ⟨d, d1, d2, d3, rfl⟩ := nums_ok s hs
      exact ⟨d, d1, d2, d3, rfl⟩
    refine b_if (T := fun b => b = decide (sh = 3)) (t_test (e_op1 (e_var rfl) e_int k_eq_i)) (fun _ => more _ _ _ _ (fun k => k = .dat (.str "-")) _ rfl e_str ?_) (fun _ => ?_)
    · rintro _ rfl
      exact ⟨.none, rfl, rfl, by decide, by rw [X_str (x := "-") (d := .none) minus]⟩
    refine b_if (T := fun b => b = decide (sh = 4)) (t_test (e_op1 (e_var rfl) e_int k_eq_i)) (fun _ => more _ _ _ _ (fun k => ∃ w : Str, gd (.str w) = true ∧ w.length ≤ 4 ∧ k = .dat (.str (X (.str w)))) _ rfl (e_op (S1 := fun k => ∃ w : Str, gd (.str w) = true ∧ w.length ≤ 4 ∧ k = .dat (.str ("\"" ++ w))) (S2 := fun k => k = .dat (.str "\"")) (e_op (S1 := fun k => k = .dat (.str "\"")) (S2 := fun k => ∃ w : Str, gd (.str w) = true ∧ w.length ≤ 4 ∧ k = .dat (.str w)) e_str (e_op (S1 := fun k => k = .new [.str "", .str "a", .str "lay", .str "mend", .str "zz"]) (e_lst (a_cons e_str (a_cons e_str (a_cons e_str (a_cons e_str (a_cons e_str a_nil))))) rfl) (e_draw ib rfl e_int (by decide) (by decide)) ?_) ?_) e_str ?_) ?_) (fun _ => ?_)
    · rintro _ _ rfl ⟨d, d0, d1, rfl⟩
      obtain ⟨u, e1, e2⟩ := at_set (xs := [PyData.str "", .str "a", .str "lay", .str "mend", .str "zz"]) (n := 5) rfl d0 d1
      obtain ⟨w, rfl, w1, w2⟩ := ws_ok u e2
      exact (k_ix rfl e1).imp fun _ h => ⟨w, w1, w2, h⟩
    · rintro _ _ rfl ⟨w, w1, w2, rfl⟩
      exact (k_add_s (by rw [q1_len]; omega)).imp fun _ h => ⟨w, w1, w2, h⟩
    · rintro _ _ ⟨w, w1, w2, rfl⟩ rfl
      refine (k_add_s (by rw [str_app_len, q1_len]; omega)).imp fun _ h => ⟨w, w1, w2, ?_⟩
      rw [h, X_str (x := ("\"" : Str) ++ w ++ ("\"" : Str)) (d := .str w) (by rw [tl_append, tl_append, quo, txt]; rfl)]
    · rintro _ ⟨w, w1, w2, rfl⟩
      refine ⟨.str w, w1, rfl, ?_, rfl⟩
      rw [len_tl] at w2
      rw [txt]
      simp at w2 ⊢
      omega
    refine q_asgS (S := fun k' => ∃ m : Nat, m ≤ ds.length ∧ k' = .dat (.int (m : Int))) (e_cb (P := fun ks => ∃ d : Int, 0 ≤ d ∧ d < 4 ∧ ks = [.dat (.int d), .dat (.int (ds.length : Int))]) (a_consS (e_draw ib rfl e_int (by decide) (by decide)) (a_cons (e_cb1 (a_cons (e_var rfl) a_nil) (c_len rfl)) a_nil) ?_) ?_) ?_
    · rintro _ _ ⟨d, d0, d1, rfl⟩ rfl
      refine ⟨d, d0, d1, ?_⟩
      rw [List.length_map, List.length_map]
    · rintro _ ⟨d, d0, d1, rfl⟩
      refine fun σ Hs H vs r q r2 o Q g => c_min (C := C) (ρ := _) σ Hs H vs r q r2 o Q fun k' u H' hk => g k' u H' ?_
      subst hk
      split
      · exact ⟨ds.length, Nat.le_refl _, rfl⟩
      · refine ⟨d.toNat, by omega, ?_⟩
        rw [show ((d.toNat : Nat) : Int) = d by omega]
    rintro _ ⟨m, hm, rfl⟩
    have hml : ((ds.map X).map PyData.str).length = ds.length := by rw [List.length_map, List.length_map]
    have et : ((ds.map X).map PyData.str).take (((ds.map X).map PyData.str).length - m) = ((ds.take (ds.length - m)).map X).map .str := by rw [hml, List.map_take, List.map_take]
    have ed : ((ds.map X).map PyData.str).drop (((ds.map X).map PyData.str).length - m) = ((ds.drop (ds.length - m)).map X).map .str := by rw [hml, List.map_drop, List.map_drop]
    have hsplit := List.take_append_drop (ds.length - m) ds
    have hg2 := gdAll_app (ds.take (ds.length - m)) (ds.drop (ds.length - m))
    rw [hsplit, hg] at hg2
    have hg3 : gdAll (ds.take (ds.length - m)) = true ∧ gdAll (ds.drop (ds.length - m)) = true := by
      have := hg2.symm
      rw [Bool.and_eq_true] at this
      exact this
    have ht2 := congrArg List.length (txtAll_app (ds.take (ds.length - m)) (ds.drop (ds.length - m)))
    rw [hsplit, List.length_append] at ht2
    have hd2 := depAll_app (ds.take (ds.length - m)) (ds.drop (ds.length - m))
    rw [hsplit] at hd2
    have cutI : ∀ {ρ : List Kd}, ρ[1]? = some (.own l ((ds.map X).map .str)) → ρ[4]? = some (.dat (.int (m : Int))) → E1 C (tOp rSubI (tCB (rLenP C.K) (tCons (tVar 1) tNil)) (tVar 4)) ρ (.dat (.int ((((ds.map X).map PyData.str).length : Int) - (m : Int)))) := fun h1 h4 => e_op1 (e_cb1 (a_cons (e_var h1) a_nil) (c_len rfl)) (e_var h4) k_sub_i
    have s2 := e_slL (C := C) (k := .own l ((ds.map X).map .str)) (ρ := [bx b, .own l ((ds.map X).map .str), .dat (.int (0 + (k : Int))), .dat (.int sh), .dat (.int (m : Int)), x5, .un]) (te := tVar 1) (e_var rfl) (o_some (cutI rfl rfl)) o_none rfl
    rw [cut_from (by rw [hml]; exact hm), ed] at s2
    refine q_asg (e_commas (C := C) (j := 6) s2 rfl rfl (by simp) (by omega)) ?_
    have s1 := e_slL (C := C) (k := .own l ((ds.map X).map .str)) (ρ := [bx b, .own l ((ds.map X).map .str), .dat (.int (0 + (k : Int))), .dat (.int sh), .dat (.int (m : Int)), .dat (.str ⟨(txtAll (ds.drop (ds.length - m))).toArray⟩), .un]) (te := tVar 1) (e_var rfl) o_none (o_some (cutI rfl rfl)) rfl
    rw [cut_to (by rw [hml]; exact hm), et] at s1
    have s4 := e_lst (C := C) (ds := [.str (X (.tuple (ds.drop (ds.length - m))))]) (a_cons (e_brack (C := C) (ρ := [bx b, .own l ((ds.map X).map .str), .dat (.int (0 + (k : Int))), .dat (.int sh), .dat (.int (m : Int)), .dat (.str ⟨(txtAll (ds.drop (ds.length - m))).toArray⟩), .un]) (te := tVar 5) (e_var rfl) (by omega)) a_nil) rfl (show 1 ≤ sizeLine by decide)
    have s5 := e_op1 (C := C) s1 s4 (k_add_l (C := C) rfl rfl (by rw [List.length_map, List.length_map, List.length_take]; simp; omega))
    refine b_asg s5 ?_
    rintro _ rfl l'
    refine ⟨l', ds.take (ds.length - m) ++ [.tuple (ds.drop (ds.length - m))], .dat (.int (0 + (k : Int))), .dat (.int sh), .dat (.int (m : Int)), .dat (.str ⟨(txtAll (ds.drop (ds.length - m))).toArray⟩), ?_, ?_, ?_, ?_⟩
    · rw [List.map_append, List.map_append]
      rfl
    · rw [gdAll_app, hg3.1]
      simp [gdAll, gd, hg3.2]
    · rw [depAll_app]
      simp [depAll, dep]
      omega
    · rw [txtAll_app, List.length_append]
      simp [txtAll, txt]
      omega
  · rintro _ ⟨l, ds, x2, x3, x4, x5, rfl, hg, hd, ht⟩
    have hm12 : m.toNat ≤ 12 := by omega
    refine q_when (T := fun bb => bb = decide ((((ds.map X).map PyData.str).length : Int) = 1)) (t_test (e_op1 (e_cb1 (a_cons (e_var rfl) a_nil) (c_len rfl)) e_int k_eq_i)) (fun hb => ?_) (fun _ => ?_)
    · have := of_decide_eq_true hb.symm
      rw [List.length_map, List.length_map] at this
      obtain ⟨d, hd1⟩ := List.length_eq_one_iff.mp (show ds.length = 1 by omega)
      subst hd1
      simp [gdAll] at hg
      simp [depAll] at hd
      simp [txtAll] at ht
      exact b_ret (d := .str (X d)) (e_op1 (e_var rfl) e_int (k_ix rfl (at_nat (n := 0) rfl))) rfl ⟨d, hg, by omega, by omega, rfl⟩
    · refine b_ret (e_brack (e_commas (C := C) (k := .own l ((ds.map X).map .str)) (j := 6) (te := tVar 1) (e_var rfl) rfl rfl (by simp) (by omega)) (by omega)) rfl ⟨.tuple ds, hg, by rw [dep]; omega, by rw [txt]; simp; omega, rfl⟩
end
end Mh
namespace Mh
open PySem PySem.Spec PyProof.Rows L2 TL
section
variable {K : PySem.W.Frag} {D : Addr} {vs : List V} {H : Hp} {Q : VK} {E : XK}
theorem tl_to {z : Str} {p : Nat} : tl (cutS z none (some (p : Int))) = (tl z).take p := by
  show ((z.cps.toList.drop (HT.sIx z.length 0 none)).take (HT.sIx z.length z.length (some (p : Int)) - HT.sIx z.length 0 none)) = _
  rw [HT.sIx_nat, HT.sIx_none, List.drop_zero, Nat.sub_zero]
  have hl : z.length = z.cps.toList.length := len_tl z
  by_cases h : p ≤ z.length
  · rw [Nat.min_eq_left h]
  · rw [Nat.min_eq_right (by omega), List.take_of_length_le (by omega)]
    exact (List.take_of_length_le (by show z.cps.toList.length ≤ p; omega)).symm
theorem tl_from {z : Str} {p : Nat} : tl (cutS z (some (p : Int)) none) = (tl z).drop p := by
  show ((z.cps.toList.drop (HT.sIx z.length 0 (some (p : Int)))).take (HT.sIx z.length z.length none - HT.sIx z.length 0 (some (p : Int)))) = _
  rw [HT.sIx_nat, HT.sIx_none]
  have hl : z.length = z.cps.toList.length := len_tl z
  by_cases h : p ≤ z.length
  · rw [Nat.min_eq_left h, List.take_of_length_le]
    rw [List.length_drop, hl]
    exact Nat.le_refl _
  · rw [Nat.min_eq_right (by omega), Nat.sub_self, List.take_zero]
    exact (List.drop_eq_nil_of_le (by show z.cps.toList.length ≤ p; omega)).symm
theorem Asc.app {a b : Str} (h1 : Asc a) (h2 : Asc b) : Asc (a ++ b) := fun c hc => by
  rw [tl_append, List.mem_append] at hc
  exact hc.elim (h1 c) (h2 c)
theorem Asc.to {z : Str} {p : Nat} (h : Asc z) : Asc (cutS z none (some (p : Int))) := fun c hc => by
  rw [tl_to] at hc
  exact h c (List.mem_of_mem_take hc)
theorem Asc.from {z : Str} {p : Nat} (h : Asc z) : Asc (cutS z (some (p : Int)) none) := fun c hc => by
  rw [tl_from] at hc
  exact h c (List.mem_of_mem_drop hc)
theorem len_to {z : Str} {p : Nat} : (cutS z none (some (p : Int))).length = min p z.length := by
  rw [len_tl, tl_to, List.length_take, ← len_tl]
theorem len_from {z : Str} {p : Nat} : (cutS z (some (p : Int)) none).length = z.length - p := by
  rw [len_tl, tl_from, List.length_drop, ← len_tl]
def signs16 : List PyData := [.str "(", .str ")", .str ",", .str "-", .str "\"", .str "0", .str "1", .str "a", .str "A", .str " ", .str ".", .str "+", .str "[", .str "'", .str "\n", .str "_"]
theorem signs_ok : ∀ s ∈ signs16, ∃ w : Str, s = .str w ∧ Asc w ∧ w.length = 1 := by
  intro s hs
  simp only [signs16, List.mem_cons, List.not_mem_nil, or_false] at hs
  unfold Asc
  rcases hs with rfl | rfl | rfl | rfl | rfl | rfl | rfl | rfl | rfl | rfl | rfl | rfl | rfl | rfl | rfl | rfl <;> exact ⟨_, rfl, by decide +kernel, by decide +kernel⟩
/-- the text bent k times -/
def BT (b : Addr) (z : Str) (k : Nat) (ρ : List Kd) : Prop := ∃ (z' : Str) (x2 x3 x4 x5 x6 : Kd), ρ = [bx b, .dat (.str z'), x2, x3, x4, x5, x6] ∧ Asc z' ∧ z'.length ≤ z.length + k
theorem go_law_bent (h : sp_law_bent K vs H Q E) : t_law_bent K { nx := fun _ H' => Q .non H', rt := Q } (L2.start ["box", "text", "turn", "at", "signs", "sign", "shape"] vs) H := by
  refine sb_body ?_ h
  rintro b g c H E ks S Z ⟨z, rfl, hz, hzl, rfl, rfl⟩ n _ ib
  change BS _ _ [bx b, .dat (.str z), .un, .un, .un, .un, .un] _
  generalize hC : (⟨K, BF b g c, BJ b g c, H, true, [], E, noZ⟩ : Ct) = C at ib
  have hK : C.K = K := by rw [← hC]
  have hfr : C.fr = true := by rw [← hC]
  rw [← hK]
  have big := sl_big
  refine b_seq ?_
  refine b_forS (M := fun m => 1 ≤ m ∧ m ≤ 2) (S := fun k => ∃ m : Int, 1 ≤ m ∧ m ≤ 2 ∧ k = .dat (.int m)) (e_op (S1 := fun k => k = .dat (.int 1)) e_int (e_draw ib rfl e_int (by decide) (by decide)) ?_) ?_ ?_
  · rintro _ _ rfl ⟨d, d0, d1, rfl⟩
    exact k_add_i.imp fun _ h => ⟨1 + d, by omega, by omega, h⟩
  · rintro _ ⟨m, m0, m1, rfl⟩
    exact ⟨m, rfl, by omega, by omega, m0, m1⟩
  rintro m wi' ⟨m0, m1⟩ hw
  refine b_forR hw (BT b z) ⟨z, .un, .un, .un, .un, .un, rfl, hz, by omega⟩ ?_ ?_
  · rintro k _ hk ⟨z', x2, x3, x4, x5, x6, rfl, hz', hl'⟩
    have hzs : z'.length ≤ sizeLine := by omega
    refine q_asgS (S := fun k' => ∃ p : Nat, p ≤ z'.length ∧ k' = .dat (.int (p : Int))) ((e_draw (C := C) (m := (z'.length : Int) + 1) ib rfl (e_op1 (e_cb1 (a_cons (e_var (k := .dat (.str z')) rfl) a_nil) (c_lenS hzs)) e_int k_add_i) (by omega) (by omega)).imp ?_) ?_
    · rintro _ ⟨d, d0, d1, rfl⟩
      exact ⟨d.toNat, by omega, by rw [show ((d.toNat : Nat) : Int) = d by omega]⟩
    rintro _ ⟨p, hp, rfl⟩
    refine q_asgN (ds := signs16) (e_lst (a_cons e_str (a_cons e_str (a_cons e_str (a_cons e_str (a_cons e_str (a_cons e_str (a_cons e_str (a_cons e_str (a_cons e_str (a_cons e_str (a_cons e_str (a_cons e_str (a_cons e_str (a_cons e_str (a_cons e_str (a_cons e_str a_nil)))))))))))))))) rfl) fun l => ?_
    refine q_asgS (S := fun k' => ∃ w : Str, Asc w ∧ w.length = 1 ∧ k' = .dat (.str w)) (e_op (S1 := fun k' => k' = .own l signs16) (e_var rfl) (e_draw ib rfl e_int (by decide) (by decide)) ?_) ?_
    · rintro _ _ rfl ⟨d, d0, d1, rfl⟩
      obtain ⟨u, e1, e2⟩ := at_set (xs := signs16) (n := 16) rfl d0 d1
      obtain ⟨w, rfl, w1, w2⟩ := signs_ok u e2
      exact (k_ix rfl e1).imp fun _ h => ⟨w, w1, w2, h⟩
    rintro _ ⟨w, w1, w2, rfl⟩
    refine q_asgS (e_draw ib rfl e_int (by decide) (by decide)) ?_
    rintro _ ⟨sh, s0, s1, rfl⟩
    let ρ : List Kd := [bx b, .dat (.str z'), .dat (.int (0 + (k : Int))), .dat (.int (p : Int)), .own l signs16, .dat (.str w), .dat (.int sh)]
    have eTo : E1 C (tSl (rSlP C.K) (tVar 1) tNoPart (tPart (tVar 3))) ρ (.dat (.str (cutS z' none (some (p : Int))))) := e_slS (C := C) (z := z') (te := tVar 1) (e_var rfl) o_none (o_some (te := tVar 3) (i := (p : Int)) (e_var rfl)) hzs
    have eFr : E1 C (tSl (rSlP C.K) (tVar 1) (tPart (tVar 3)) tNoPart) ρ (.dat (.str (cutS z' (some (p : Int)) none))) := e_slS (C := C) (z := z') (te := tVar 1) (e_var rfl) (o_some (te := tVar 3) (i := (p : Int)) (e_var rfl)) o_none hzs
    have eFr1 : E1 C (tSl (rSlP C.K) (tVar 1) (tPart (tOp (rAddP C.K) (tVar 3) (tC (.int 1)))) tNoPart) ρ (.dat (.str (cutS z' (some ((p + 1 : Nat) : Int)) none))) := e_slS (C := C) (z := z') (te := tVar 1) (e_var rfl) (o_some (i := ((p + 1 : Nat) : Int)) (e_op1 (e_var (k := .dat (.int (p : Int))) rfl) e_int k_add_i)) o_none hzs
    have eW : E1 C (tVar 5) ρ (.dat (.str w)) := e_var rfl
    have fin : ∀ {te : TE} {y : Str} {P : Po}, P.nx = BT b z (k + 1) → E1 C te ρ (.dat (.str y)) → Asc y → y.length ≤ z.length + (k + 1) → BS C (tAsg te (gName 1)) ρ P := by
      intro te y P hP he hy hl
      refine b_asg he ?_
      rintro _ rfl
      show P.nx _
      rw [hP]
      exact ⟨y, _, _, _, _, _, rfl, hy, hl⟩
    refine b_if (T := fun bb => bb = decide (sh = 0)) (t_test (e_op1 (e_var rfl) e_int k_eq_i)) (fun _ => fin rfl (e_cat eTo eFr1 (by rw [len_to, len_from]; omega)) (hz'.to.app hz'.from) (by rw [str_app_len, len_to, len_from]; omega)) (fun _ => ?_)
    refine b_if (T := fun bb => bb = decide (sh = 1)) (t_test (e_op1 (e_var rfl) e_int k_eq_i)) (fun _ => fin rfl (e_cat (e_cat eTo eW (by rw [len_to]; omega)) eFr (by rw [str_app_len, len_to, len_from]; omega)) ((hz'.to.app w1).app hz'.from) (by rw [str_app_len, str_app_len, len_to, len_from]; omega)) (fun _ => ?_)
    exact fin rfl (e_cat (e_cat eTo eW (by rw [len_to]; omega)) eFr1 (by rw [str_app_len, len_to, len_from]; omega)) ((hz'.to.app w1).app hz'.from) (by rw [str_app_len, str_app_len, len_to, len_from]; omega)
  · rintro _ ⟨z', x2, x3, x4, x5, x6, rfl, hz', hl'⟩
    exact b_ret (d := .str z') (e_var rfl) rfl ⟨z', hz', by omega, rfl⟩
end
end Mh
namespace Mh
open PySem PySem.Spec PyProof.Rows L2 TL
def repS (a : Str) (n : Nat) : Str := ⟨(List.replicate n a.cps).foldl (· ++ ·) #[]⟩
theorem foldl_app (l : List (Array Nat)) (x : Array Nat) : (l.foldl (· ++ ·) x).toList = x.toList ++ (l.map (·.toList)).flatten := by
  induction l generalizing x with
  | nil => simp
  | cons a l ih =>
    rw [List.foldl_cons, ih]
    simp
theorem repS_tl (a : Str) (n : Nat) : tl (repS a n) = (List.replicate n (tl a)).flatten := by
  show ((List.replicate n a.cps).foldl (· ++ ·) #[]).toList = _
  rw [foldl_app, List.map_replicate]
  rfl
theorem repS_len (a : Str) (n : Nat) : (repS a n).length = n * a.length := by
  rw [len_tl, repS_tl, len_tl]
  simp
theorem Asc.rep {a : Str} {n : Nat} (h : Asc a) : Asc (repS a n) := fun c hc => by
  rw [repS_tl, List.mem_flatten] at hc
  obtain ⟨l, hl, hcl⟩ := hc
  rw [List.mem_replicate] at hl
  exact h c (hl.2 ▸ hcl)
/-- a text told n times over -/
def rMulS : R2 := fun x y H Q => ∃ (a : Str) (n : Nat), x = .str a ∧ y = .int (n : Int) ∧ 2 ≤ n ∧ 1 ≤ a.length ∧ a.length * n ≤ 100000 ∧ Q (.str (repS a n)) H
theorem op_mulS {X : Cx} : OpR X (binaryOp .Mult) rMulS := by
  intro pins s σ H x y v u Q I rx ry h
  obtain ⟨a, n, rfl, rfl, hn, ha, hz, q⟩ := h
  obtain ⟨t, rfl⟩ := rx
  obtain ⟨t', rfl⟩ := ry
  have hn2 : n ≤ 100000 := Nat.le_trans (by exact Nat.le_mul_of_pos_left n ha) hz
  have e63 : (2 : Int) ^ 63 = 9223372036854775808 := by decide +kernel
  refine P.mul_str ?_ ?_ ?_ ?_
  · rw [e63, decide_eq_false (show ¬ ((n : Int) < -9223372036854775808) by omega), decide_eq_false (show ¬ ((n : Int) ≥ 9223372036854775808) by omega)]
    rfl
  · intro _ _ hh
    have : (a.length : Int) * (n : Int) ≤ 100000 := by rw [← Int.natCast_mul]; omega
    rw [e63] at hh
    have h2 : (9223372036854775808 - 1 : Int) / (n : Int) < (a.length : Int) := hh
    have h3 := (Int.ediv_lt_iff_lt_mul (by omega)).mp h2
    omega
  · intro _ _
    rw [Int.toNat_natCast]
    exact decide_eq_false (by have := sl_big; omega)
  · rw [if_neg (by omega), if_neg (by
      rw [Bool.or_eq_true, beq_iff_eq, beq_iff_eq]
      omega)]
    rw [Int.toNat_natCast]
    refine ⟨?_, ?_⟩
    · show (repS a n).length ≤ sizeLine
      have := sl_big
      rw [repS_len, Nat.mul_comm]
      omega
    · exact ⟨.str (repS a n), H, I.tok _, ⟨_, rfl⟩, q⟩
section
variable {C : Ct} {ρ : List Kd}
theorem k_mul_s {a : Str} {n : Nat} (h0 : 2 ≤ n) (h1 : 1 ≤ a.length) (h : a.length * n ≤ 100000) : OpK C ρ rMulS (.dat (.str a)) (.dat (.int (n : Int))) fun z => z = .dat (.str (repS a n)) :=
  opk_val (v := .str a) (w := .int (n : Int)) (u := .str (repS a n)) (fun H Q q => ⟨a, n, rfl, rfl, h0, h1, h, q⟩) (fun _ _ _ h => dp_str h) (fun _ _ _ h => dp_int h) fun _ _ => .str _
end
end Mh
namespace Mh
open PySem PySem.Spec PyProof.Rows L2 TL
/-- the exception that is handled: its fields stand in dd -/
def xk (a dd : Addr) (fv : List (Str × V)) : Knd where
  ok := fun _ M v => v = .ref a ∧ M dd = some (.xd fv)
  up := fun e h => ⟨h.1, e _ _ h.2⟩
section
variable {C : Ct} {ρ : List Kd} {σ : L2.St} {H H' H1 : Hp} {ta : TA} {te : TE} {a dd D : Addr} {fv : List (Str × V)} {v : V} {P : Po} {i j : Nat} {f : Str}
theorem xk_here (rp : Rep C σ H ρ) (h : H dd = some (.xd fv)) : msk C ρ H dd = some (.xd fv) := by
  refine msk_mk h (fun ⟨i, ds, e⟩ => ?_) (fun z => ?_) fun z => ?_
  · obtain ⟨_, vs, q, _⟩ := rp.sl i _ e
    rw [h] at q
    cases q
  · obtain ⟨xs, q⟩ := rp.ok.ls H dd rp.j z
    rw [h] at q
    cases q
  · rw [h] at z
    exact z.2.2
/-- err.f -/
theorem e_xf {d : PyData} (h : E1 C te ρ (.k (xk a dd fv))) (hf : fv.lookup f = some v) (hd : ∀ M, Dp C.K M v d) : E1 C (tXf a (.ref D) (some dd) D f te) ρ (.dat d) := fun σ H r Q q => h σ H r _ fun k x H1 s1 r1 o1 => by
  subst s1
  exact ⟨o1.1, rfl, dd, fv, v, rfl, (msk_of o1.2).1, hf, q _ _ _ rfl r1 (hd _)⟩
/-- name = f(..), the exceptions of class D caught -/
theorem b_tryX {A : At} {ks ks' : List Kd} {S' : Kd → Prop} {Z' : Zt} {c : Value} {ts : Addr → Value → Option Addr → TS} {Wout : WX} (ha : A1 C ta ρ ks) (hk : ArgsK false ks ks') (hA : A ks' S' Z') (hS : ∀ k, S' k → NxA P.nx ρ j k)
    (hx : ∀ cls fs, Z' cls fs → PySem.W.exmOne C.K cls c = some true ∧ ∀ a dd fv, (∃ M, FsOk C.K M fv fs) → BS C (ts a cls (some dd)) (ρ.set i (.k (xk a dd fv))) { rt := P.rt }) :
    BS C (fun D σ H => tAsg (tCallS (SpP C.K A) (WE (wAs C.K c i ts Wout D)) ta) (gName j) D σ H) ρ P := fun σ H rp D pd => ha σ H rp _ fun ks2 vs H1 s1 r1 o1 => by
  subst s1
  have no := args_own hk
  have rp1 := rp.up r1
  obtain ⟨g1, g2⟩ := args_ok (E := WE (wAs C.K c i ts Wout D) σ) (Z := Z') (ρ' := ks') rp r1 (.inr ⟨rfl, rfl⟩) no o1 hk
  refine ⟨ks', S', Z', hA, ⟨⟨fun _ _ _ _ => trivial, fun _ _ _ f => f.elim, trivial, fun cls fs d H' fv z rr h0 hxd fo => ?_⟩, trivial, fun a o h _ => h, by rw [List.length_map]; exact g1, fun a b l ds es ha => (no l ⟨a, ds, ha⟩).elim, fun l o => (no l o).elim, g2, fun p hp => by cases hp⟩, fun k v H' s2 ro => ?_⟩
  · obtain ⟨ex, hs⟩ := hx cls fs z
    refine ⟨true, ex, fun _ a _ => ?_, fun h => by cases h⟩
    have r2 := call_R (F := noF) (J := noJ) (fr := false) (E := WE (wAs C.K c i ts Wout D) σ) (Z := Z') rp1 (.inr ⟨rfl, rfl⟩) rr
    have rp2 := rp1.up r2
    have rp3 : Rep C (σ.set i (some (.ref a))) H' (ρ.set i (.k (xk a d fv))) := rp2.set_plain (Hs := H') (k := .k (xk a d fv)) rfl ⟨rfl, xk_here rp2 hxd⟩
    exact hs a d fv ⟨_, fo⟩ _ _ rp3 _ ⟨fun _ _ _ z => z.elim, fun k v H p ro => pd.rt k v H p ro, fun _ _ _ z => z.elim, fun _ _ _ z => z.elim⟩
  · obtain ⟨r2, o2⟩ := call_back rp1 (.inr ⟨rfl, rfl⟩) ro
    obtain ⟨ρ', n, r'⟩ := nx_store rp (r1.trans r2) (o2.back rp.ok r1) (hS k s2)
    exact pd.nx ρ' _ H' n r'
end
end Mh
namespace Mh
open PySem PySem.Spec PyProof.Rows L2 TL
theorem e_told {C : Ct} {ρ : List Kd} {ta : TE} {d : PyData} (h : E1 C ta ρ (.dat d)) (hg : gd d = true) (hl : (txt d).length ≤ 90000) : E1 C (tCall (sp_told C.K) [] E0 (tCons ta tNil)) ρ (.dat (.str (X d))) :=
  e_callP (A := A_txt) (S' := fun z => z = .dat (.str (X d))) (ks' := [.dat d]) (a_cons h a_nil) (.cons (.dat fun h => by cases h) .nil) ⟨d, rfl, hg, by omega, rfl, rfl⟩ fun k hk => hk
theorem e_chain {C : Ct} {ρ : List Kd} {ta tb tc : TE} {x y z : Int} (ha : E1 C ta ρ (.dat (.int x))) (hb : E1 C tb ρ (.dat (.int y))) (hc : E1 C tc ρ (.dat (.int z))) : E1 C (tChain rLeI rLeI ta tb tc) ρ (.dat (.bool (decide (x ≤ y) && decide (y ≤ z)))) := fun σ H rp Q g => ha σ H rp _ fun k1 v1 H1 s1 r1 w1 => by
  subst s1
  obtain rfl := dp_int w1
  refine hb σ H1 (rp.up r1) _ fun k2 v2 H2 s2 r2 w2 => ?_
  subst s2
  obtain rfl := dp_int w2
  refine ⟨x, y, rfl, rfl, decide (x ≤ y), rfl, ?_⟩
  revert g
  generalize decide (x ≤ y) = p
  intro g
  cases p with
  | false => exact g _ _ H2 rfl (r1.trans r2) (Dp.bl false)
  | true =>
    refine hc σ H2 (rp.up (r1.trans r2)) _ fun k3 v3 H3 s3 r3 w3 => ?_
    subst s3
    obtain rfl := dp_int w3
    exact ⟨y, z, rfl, rfl, g _ _ H3 rfl ((r1.trans r2).trans r3) (Dp.bl (decide (y ≤ z)))⟩
/-! ### _law_right -/
/-- two texts alone, compared where nothing is known of the guards -/
def rReprS : List V → Hp → VK → Prop := fun xs H Q => ∃ z, xs = [.str z] ∧ ShOk (.str z) ∧ Q (.str (PyData.shown (.str z))) H
def t_sameS (K : PySem.W.Frag) : TS := tRet (tAndV (tOp (rEqP K) (tVar 0) (tVar 1)) (tOp (rEqP K) (tCB rReprS (tCons (tVar 0) tNil)) (tCB rReprS (tCons (tVar 1) tNil))))
def A_sameS : At := fun ks S Z => ∃ z : Str, ks = [.dat (.str z), .dat (.str z)] ∧ ShOk (.str z) ∧ (S = fun k => k = .dat (.bool true)) ∧ Z = noZ
def sp_sameS (K : PySem.W.Frag) : Sp := SpP K A_sameS
def A_right : At := fun ks S Z => ∃ z : Str, ks = [.dat (.str z)] ∧ Asc z ∧ z.length ≤ 20000 ∧ (S = fun k => k = .dat (.bool true)) ∧ Z = noZ
def sp_law_right (K : PySem.W.Frag) : Sp := SpP K A_right
def s_right (K : PySem.W.Frag) (D : Addr) (a : Addr) (cls : Value) (d : Option Addr) : TS := tSeq (tIfS (tOr (tTru K (tCall (sp_law_reads K) [] E0 (tCons (tVar 0) tNil))) (tNot (tTru K (tCall (sp_sameS K) [] E0 (tCons (tVar 0) (tCons (tXf a cls d D "text" (tVar 2)) tNil)))))) (tRet (tC (.bl false))) tNext)
  (tRet (tAndV (tCB (rIsi K) (tCons (tXf a cls d D "at" (tVar 2)) (tCons (tC (.ty "int")) tNil))) (tAndV (tNotV (tCB (rIsi K) (tCons (tXf a cls d D "at" (tVar 2)) (tCons (tC (.ty "bool")) tNil)))) (tChain rLeI rLeI (tC (.int 0)) (tXf a cls d D "at" (tVar 2)) (tCB (rLenP K) (tCons (tVar 0) tNil))))))
def t_law_right (K : PySem.W.Frag) (D : Addr) : TS := tSeq (fun Dd σ H => tAsg (tCallS (sp_untoldX K D) (WE (wAs K (.ref D) 2 (s_right K D) (fun _ _ _ _ => False) Dd)) (tCons (tVar 0) tNil)) (gName 1) Dd σ H)
  (tRet (tAndV (tCall (sp_law_reads K) [] E0 (tCons (tVar 0) tNil)) (tCall (sp_law_same K) [] E0 (tCons (tVar 0) (tCons (tCall (sp_told K) [] E0 (tCons (tVar 1) tNil)) tNil)))))
section
variable {K : PySem.W.Frag} {D : Addr} {vs : List V} {H : Hp} {Q : VK} {E : XK}
theorem go_sameS (h : sp_sameS K vs H Q E) : t_sameS K { nx := fun _ H' => Q .non H', rt := Q } (L2.start ["due", "got"] vs) H := by
  refine sp_body ?_ h
  rintro H E ks S Z ⟨z, rfl, hz, rfl, rfl⟩ n _
  change BS ⟨K, noF, noJ, H, false, [], E, noZ⟩ _ [.dat (.str z), .dat (.str z)] _
  generalize hC : (⟨K, noF, noJ, H, false, [], E, noZ⟩ : Ct) = C
  have hK : C.K = K := by rw [← hC]
  subst hK
  have er : ∀ i, [Kd.dat (.str z), .dat (.str z)][i]? = some (.dat (.str z)) → E1 C (tCB rReprS (tCons (tVar i) tNil)) [.dat (.str z), .dat (.str z)] (.dat (.str (PyData.shown (.str z)))) := fun i hi σ H r Q q => (show E1 C (tVar i) _ (.dat (.str z)) from e_var hi) σ H r _ fun k' v H1 s1 r1 o1 => by
    subst s1
    obtain rfl := dp_str o1
    exact ⟨z, rfl, hz, q _ _ _ rfl r1 (.str _)⟩
  refine b_ret (e_and (a := true) (b := true) ((e_op1 (e_var rfl) (e_var rfl) (k_eq rfl rfl hz.sh hz.sh)).is ?_) fun _ => (e_op1 (er 0 rfl) (er 1 rfl) k_eq_s).is ?_) rfl rfl
  · rw [SeqAt.eqv_refl _ (SeqAt.canLay_of_shaped hz.sh)]
  · rw [decide_eq_true rfl]
theorem go_law_right (hD : PySem.W.exmOne K (.ref D) (.ref D) = some true) (h : sp_law_right K vs H Q E) : t_law_right K D { nx := fun _ H' => Q .non H', rt := Q } (L2.start ["text", "value", "e"] vs) H := by
  refine sp_body ?_ h
  rintro H E ks S Z ⟨z, rfl, hz, hl, rfl, rfl⟩ n _
  change BS ⟨K, noF, noJ, H, false, [], E, noZ⟩ _ [.dat (.str z), .un, .un] _
  generalize hC : (⟨K, noF, noJ, H, false, [], E, noZ⟩ : Ct) = C
  have hK : C.K = K := by rw [← hC]
  subst hK
  have big := sl_big
  have rd : ∀ {ρ : List Kd}, ρ[0]? = some (.dat (.str z)) → EB C (tCall (sp_law_reads C.K) [] E0 (tCons (tVar 0) tNil)) ρ (fun k => ∃ b : Bool, (b = true ↔ Rdg z) ∧ k = .dat (.bool b)) := fun h0 =>
    e_callP (A := A_reads) (ks' := [.dat (.str z)]) (a_cons (e_var h0) a_nil) (.cons (.dat fun h => by cases h) .nil) ⟨z, rfl, by omega, rfl, rfl⟩ fun k h => h
  refine b_seq (b_tryX (C := C) (ρ := [.dat (.str z), .un, .un]) (A := A_valX D) (ks' := [.dat (.str z)]) (i := 2) (j := 1) (a_cons (e_var rfl) a_nil) (.cons (.dat fun h => by cases h) .nil) ⟨z, rfl, by omega, rfl, rfl⟩ ?_ ?_)
  · rintro _ ⟨d, hd, rfl⟩
    obtain ⟨hx, hg⟩ := par_txt_back hd
    have hX : z = X d := X_str hx.symm
    have hlt : (txt d).length ≤ 20000 := by
      rw [hx]
      rw [len_tl] at hl
      exact hl
    show BS C (tRet _) [.dat (.str z), .dat d, .un] _
    have e0 : E1 C (tVar 0) [.dat (.str z), .dat d, .un] (.dat (.str (X d))) := by rw [← hX]; exact e_var rfl
    have e1 : E1 C (tCall (sp_law_reads C.K) [] E0 (tCons (tVar 0) tNil)) [.dat (.str z), .dat d, .un] (.dat (.bool true)) := (rd rfl).imp (by
      rintro _ ⟨b, hb, rfl⟩
      rw [hb.mpr ⟨d, hd⟩])
    exact b_ret (e_and (b := true) e1 fun _ => e_same e0 (e_told (e_var rfl) hg (by omega)) (X_sh hg (by omega))) rfl rfl
  · rintro cls fs ⟨hn, rfl, q, hq, rfl⟩
    refine ⟨hD, fun a dd fv ⟨M, fo⟩ => ?_⟩
    obtain ⟨fv, rfl⟩ : ∃ w : Unit, fv = [(("at" : Str), V.int (q : Int)), (("text" : Str), V.str z)] := by
      match fv, fo with
      | [(x1, v1), (x2, v2)], ⟨e1, p1, e2, p2, _⟩ =>
        rw [e1, e2, dp_int p1, dp_str p2]
        exact ⟨(), rfl⟩
    show BS C _ [.dat (.str z), .un, .k (xk a dd _)] _
    have eat : E1 C (tXf a (.ref D) (some dd) D "at" (tVar 2)) [.dat (.str z), .un, .k (xk a dd [(("at" : Str), V.int (q : Int)), (("text" : Str), V.str z)])] (.dat (.int (q : Int))) := e_xf (e_var rfl) rfl fun M => .int _
    have etx : E1 C (tXf a (.ref D) (some dd) D "text" (tVar 2)) [.dat (.str z), .un, .k (xk a dd [(("at" : Str), V.int (q : Int)), (("text" : Str), V.str z)])] (.dat (.str z)) := e_xf (e_var rfl) rfl fun M => .str _
    have e2 : E1 C (tCall (sp_law_reads C.K) [] E0 (tCons (tVar 0) tNil)) [.dat (.str z), .un, .k (xk a dd [(("at" : Str), V.int (q : Int)), (("text" : Str), V.str z)])] (.dat (.bool false)) := (rd rfl).imp (by
      rintro _ ⟨b, hb, rfl⟩
      cases b with
      | false => rfl
      | true => exact (hn (hb.mp rfl)).elim)
    have e3 : E1 C (tCall (sp_sameS C.K) [] E0 (tCons (tVar 0) (tCons (tXf a (.ref D) (some dd) D "text" (tVar 2)) tNil))) [.dat (.str z), .un, .k (xk a dd [(("at" : Str), V.int (q : Int)), (("text" : Str), V.str z)])] (.dat (.bool true)) :=
      e_callP (A := A_sameS) (S' := fun k => k = .dat (.bool true)) (ks' := [.dat (.str z), .dat (.str z)]) (a_cons (e_var rfl) (a_cons etx a_nil)) (.cons (.dat fun h => by cases h) (.cons (.dat fun h => by cases h) .nil)) ⟨z, rfl, str_sh hz (by omega), rfl, rfl⟩ fun k h => h
    refine q_when (T := fun b => b = false) ((t_or (a := false) (b := false) (t_tru e2 rfl) fun _ => t_not (a := true) (t_tru e3 rfl))) (fun h => by cases h) fun _ => ?_
    · refine b_ret (e_and (b := true) (e_isi (tc := tC (.int 0)) eat rfl rfl) fun _ => e_and (a := true) (b := true) (e_not (a := false) (e_isi (tc := tC (.int 0)) eat rfl rfl)) fun _ => ?_) rfl rfl
      have q1 := e_chain (C := C) (e_int (i := 0)) eat (e_cb1 (a_cons (e_var (k := .dat (.str z)) (i := 0) rfl) a_nil) (c_lenS (by omega)))
      rw [decide_eq_true (by omega), decide_eq_true (by omega)] at q1
      exact q1
end
end Mh
namespace Mh
open PySem PySem.Spec PyProof.Rows L2 TL
/-! ### _law_all, law -/
def sp_law_all (K : PySem.W.Frag) : Sp := fun vs H Q E => ∃ (l : Addr) (ns : List Int), vs = [.ref l] ∧ SqL K H l (ns.map V.int) ∧ ∀ H', Q (.bl true) H'
def sp_law (K : PySem.W.Frag) : Sp := sp_law_all K
def t_all2 (K : PySem.W.Frag) : TS := (tSeq (tFor (iRng1 (tCons (tC (.int 8)) tNil)) (gName 2) (tSeq (tAsg (tCall (sp_law_text K) [] E0 (tCons (tVar 1) tNil)) (gName 6))
  (tIfS (tOr (tNot (tTru K (tCall (sp_law_reads K) [] E0 (tCons (tVar 6) tNil)))) (tOr (tNot (tTru K (tCall (sp_law_right K) [] E0 (tCons (tVar 6) tNil)))) (tNot (tTru K (tCall (sp_law_right K) [] E0 (tCons (tCall (sp_law_bent K) [] E0 (tCons (tVar 1) (tCons (tVar 6) tNil))) tNil)))))) (tRet (tC (.bl false))) tNext)))
  (tSeq (tAsg (tOp (rIx K) (tLst (tCons (tC (.str "-")) (tCons (tC (.str "0")) (tCons (tC (.str "\"a\"")) (tCons (tC (.str "()")) tNil))))) (tCall (sp_law_draw K) [] E0 (tCons (tVar 1) (tCons (tC (.int 4)) tNil)))) (gName 3))
  (tSeq (tFor (iAny K (tLst (tCons (tC (.int 58)) (tCons (tC (.int 59)) (tCons (tC (.int 60)) (tCons (tC (.int 61)) tNil)))))) (gName 4) (tIfS (tNot (tTru K (tCall (sp_law_right K) [] E0 (tCons (tOp (rAddP K) (tOp (rAddP K) (tOp (rMulS) (tC (.str "(")) (tVar 4)) (tVar 3)) (tOp (rMulS) (tC (.str ",)")) (tVar 4))) tNil)))) (tRet (tC (.bl false))) tNext))
  (tSeq (tAsg (tOp (rIx K) (tC (.str "123456789")) (tCall (sp_law_draw K) [] E0 (tCons (tVar 1) (tCons (tC (.int 9)) tNil)))) (gName 5))
  (tSeq (tFor (iAny K (tLst (tCons (tC (.int 39)) (tCons (tC (.int 40)) (tCons (tC (.int 41)) tNil))))) (gName 4) (tIfS (tOr (tNot (tTru K (tCall (sp_law_right K) [] E0 (tCons (tOp (rMulS) (tVar 5) (tVar 4)) tNil)))) (tNot (tTru K (tCall (sp_law_right K) [] E0 (tCons (tOp (rAddP K) (tOp (rAddP K) (tC (.str "(")) (tOp (rMulS) (tVar 5) (tVar 4))) (tC (.str ",)"))) tNil))))) (tRet (tC (.bl false))) tNext))
  (tRet (tAndV (tCall (sp_law_right K) [] E0 (tCons (tC (.str "")) tNil)) (tAndV (tCall (sp_law_right K) [] E0 (tCons (tOp (rAddP K) (tC (.str "0")) (tVar 5)) tNil)) (tAndV (tCall (sp_law_right K) [] E0 (tCons (tOp (rAddP K) (tVar 6) (tC (.str ","))) tNil)) (tCall (sp_law_right K) [] E0 (tCons (tOp (rAddP K) (tC (.str " ")) (tVar 6)) tNil)))))))))))
def t_law_all (K : PySem.W.Frag) : TS := (tSeq (tAsg (tCall (sp_law_box K) [] E0 (tCons (tVar 0) tNil)) (gName 1)) (t_all2 K))
section
variable {K : PySem.W.Frag} {D : Addr} {vs : List V} {H : Hp} {Q : VK} {E : XK}
theorem e_right {C : Ct} {ρ : List Kd} {te : TE} {z : Str} (h : E1 C te ρ (.dat (.str z))) (hz : Asc z) (hl : z.length ≤ 20000) : E1 C (tCall (sp_law_right C.K) [] E0 (tCons te tNil)) ρ (.dat (.bool true)) :=
  e_callP (A := A_right) (S' := fun k => k = .dat (.bool true)) (ks' := [.dat (.str z)]) (a_cons h a_nil) (.cons (.dat fun h => by cases h) .nil) ⟨z, rfl, hz, hl, rfl, rfl⟩ fun k h => h
theorem e_rightS {C : Ct} {ρ : List Kd} {te : TE} (h : EB C te ρ (fun k => ∃ z : Str, Asc z ∧ z.length ≤ 20000 ∧ k = .dat (.str z))) : E1 C (tCall (sp_law_right C.K) [] E0 (tCons te tNil)) ρ (.dat (.bool true)) :=
  e_callM (fr := false) (F := noF) (J := noJ) (A := A_right) (PA := fun ks => ∃ z : Str, Asc z ∧ z.length ≤ 20000 ∧ ks = [.dat (.str z)]) (a_consS h a_nil fun k ks hk hks => by
    obtain ⟨z, h1, h2, rfl⟩ := hk
    subst hks
    exact ⟨z, h1, h2, rfl⟩) (.inr ⟨rfl, rfl⟩) (fun _ _ _ h => h) fun ks hks => by
    obtain ⟨z, h1, h2, rfl⟩ := hks
    exact ⟨[.dat (.str z)], _, .cons (.dat fun h => by cases h) .nil, ⟨z, rfl, h1, h2, rfl, rfl⟩, fun k h => h⟩
theorem e_readsT {C : Ct} {ρ : List Kd} {te : TE} {z : Str} (h : E1 C te ρ (.dat (.str z))) (hr : Rdg z) (hl : z.length ≤ 100000) : E1 C (tCall (sp_law_reads C.K) [] E0 (tCons te tNil)) ρ (.dat (.bool true)) :=
  e_callP (A := A_reads) (ks' := [.dat (.str z)]) (a_cons h a_nil) (.cons (.dat fun h => by cases h) .nil) ⟨z, rfl, hl, rfl, rfl⟩ fun k ⟨b, hb, e⟩ => by rw [e, hb.mpr hr]
def TX (d : PyData) : Prop := gd d = true ∧ dep d ≤ 20 ∧ (txt d).length ≤ 4000
theorem TX.asc {d : PyData} (h : TX d) : Asc (X d) := X_lt h.1
def RX (b : Addr) (k : Nat) (ρ : List Kd) : Prop := ∃ (x2 kt : Kd), ρ = [.un, bx b, x2, .un, .un, .un, kt] ∧ (0 < k → ∃ d, TX d ∧ kt = .dat (.str (X d)))
theorem go_law_all (h : sp_law_all K vs H Q E) : t_law_all K { nx := fun _ H' => Q .non H', rt := Q } (L2.start ["script", "box", "turn", "leaf", "many", "figure", "text"] vs) H := by
  obtain ⟨l, ns, rfl, sq, fin⟩ := h
  refine ⟨.ref l, rfl, l, ns, rfl, sq, fun b g c H1 hb hg hc j old => ?_⟩
  have ib : InB ⟨K, BF b g c, BJ b g c, H1, true, [], fun _ _ _ => False, noZ⟩ b := ⟨g, c, rfl, rfl⟩
  have r0 : Rep ⟨K, BF b g c, BJ b g c, H1, true, [], fun _ _ _ => False, noZ⟩ [some (.ref l), some (.ref b), none, none, none, none, none] H1 [.un, bx b, .un, .un, .un, .un, .un] := by
    have cases7 : ∀ {i : Nat} {k : Kd}, [Kd.un, bx b, .un, .un, .un, .un, .un][i]? = some k → (i = 1 ∧ k = bx b) ∨ k = .un := fun {i k} e => by
      match i with
      | 0 => cases e; exact .inr rfl
      | 1 => cases e; exact .inl ⟨rfl, rfl⟩
      | 2 => cases e; exact .inr rfl
      | 3 => cases e; exact .inr rfl
      | 4 => cases e; exact .inr rfl
      | 5 => cases e; exact .inr rfl
      | 6 => cases e; exact .inr rfl
      | i + 7 => simp at e
    refine ⟨box_ok j, j, fun a o e _ => e, rfl, fun i j l ds es e => ?_, fun l o => ?_, fun i k e => ?_, fun p hp => by cases hp⟩
    · rcases cases7 e with ⟨_, h⟩ | h <;> cases h
    · obtain ⟨i, ds, e⟩ := o
      rcases cases7 e with ⟨_, h⟩ | h <;> cases h
    · rcases cases7 e with ⟨rfl, rfl⟩ | rfl
      · exact ⟨_, rfl, rfl⟩
      · trivial
  have pd : ∀ C : Ct, Pd C { rt := fun k => k = .dat (.bool true) } { nx := fun _ H' => Q .non H', rt := Q } := fun C => ⟨fun _ _ _ z => z.elim, fun k v H' z ro => by
    subst z
    obtain rfl : v = .bl true := dp_bl ro.2
    exact fin H', fun _ _ _ z => z.elim, fun _ _ _ z => z.elim⟩
  have use : ∀ t : TS, BS ⟨K, BF b g c, BJ b g c, H1, true, [], fun _ _ _ => False, noZ⟩ t [.un, bx b, .un, .un, .un, .un, .un] { rt := fun k => k = .dat (.bool true) } → t { nx := fun _ H' => Q .non H', rt := Q } [some (.ref l), some (.ref b), none, none, none, none, none] H1 := fun t h => h _ _ r0 _ (pd _)
  refine use (t_all2 K) ?_
  clear use
  generalize hC : (⟨K, BF b g c, BJ b g c, H1, true, [], fun _ _ _ => False, noZ⟩ : Ct) = C at ib
  have hK : C.K = K := by rw [← hC]
  clear r0 pd fin
  rw [← hK]
  unfold t_all2
  have big := sl_big
  have right : ∀ {C' : Ct} {ρ : List Kd} {te : TE} {z : Str}, E1 C' te ρ (.dat (.str z)) → Asc z → z.length ≤ 20000 → T1 C' (tNot (tTru C'.K (tCall (sp_law_right C'.K) [] E0 (tCons te tNil)))) ρ false := fun h hz hl => t_not (a := true) (t_tru (e_right h hz hl) rfl)
  refine b_seq (b_forR (w_rng1 (m := 8) (a_cons e_int a_nil) (by decide)) (RX b) ⟨.un, .un, rfl, fun h => by omega⟩ ?_ ?_)
  · rintro k _ hk ⟨x2, kt, rfl, _⟩
    refine q_asgS (S := fun k => ∃ d, TX d ∧ k = .dat (.str (X d))) (e_callB (A := A_ltext) (PA := fun ks => ks = [bx b]) ib (a_cons (e_var rfl) a_nil) fun ks e => ?_) ?_
    · subst e
      exact ⟨_, _, .cons a_bx .nil, ⟨rfl, rfl, rfl⟩, fun k ⟨d, h1, h2, h3, h4⟩ => ⟨d, ⟨h1, h2, h3⟩, h4⟩⟩
    rintro _ ⟨d, hd, rfl⟩
    have hl4 : (X d).length ≤ 4000 := by rw [X_len]; exact hd.2.2
    have e6 : E1 C (tVar 6) [.un, bx b, .dat (.int (0 + (k : Int))), .un, .un, .un, .dat (.str (X d))] (.dat (.str (X d))) := e_var rfl
    refine b_if (T := fun b => b = false) (t_or (a := false) (b := false) (t_not (a := true) (t_tru (e_readsT e6 ⟨d, par_of hd.1 (by have := hd.2.1; omega)⟩ (by omega)) rfl)) fun _ => t_or (a := false) (b := false) (right e6 hd.asc (by omega)) fun _ => t_not (a := true) (t_tru (e_rightS (e_callB (A := A_lbent) (PA := fun ks => ks = [bx b, .dat (.str (X d))]) ib (a_cons (e_var rfl) (a_cons e6 a_nil)) fun ks e => ?_)) rfl)) (fun h => by cases h) fun _ => b_next ⟨_, _, rfl, fun _ => ⟨d, hd, rfl⟩⟩
    subst e
    exact ⟨_, _, .cons a_bx (.cons (.dat fun _ => rfl) .nil), ⟨X d, rfl, hd.asc, by omega, rfl, rfl⟩, fun k ⟨z', h1, h2, h3⟩ => ⟨z', h1, by omega, h3⟩⟩
  rintro _ ⟨x2, kt, rfl, hk⟩
  obtain ⟨d, hd, rfl⟩ := hk (by decide)
  have hl4 : (X d).length ≤ 4000 := by rw [X_len]; exact hd.2.2
  have asc0 : ∀ s ∈ [PyData.str "-", .str "0", .str "\"a\"", .str "()"], ∃ w : Str, s = .str w ∧ Asc w ∧ w.length ≤ 3 := by
    intro s hs
    unfold Asc
    simp only [List.mem_cons, List.not_mem_nil, or_false] at hs
    rcases hs with rfl | rfl | rfl | rfl <;> exact ⟨_, rfl, by decide +kernel, by decide +kernel⟩
  refine q_asgS (S := fun k => ∃ w : Str, Asc w ∧ w.length ≤ 3 ∧ k = .dat (.str w)) (e_op (S1 := fun k => k = .new [.str "-", .str "0", .str "\"a\"", .str "()"]) (e_lst (a_cons e_str (a_cons e_str (a_cons e_str (a_cons e_str a_nil)))) rfl) (e_draw ib rfl e_int (by decide) (by decide)) ?_) ?_
  · rintro _ _ rfl ⟨i, d0, d1, rfl⟩
    obtain ⟨u, e1, e2⟩ := at_set (xs := [PyData.str "-", .str "0", .str "\"a\"", .str "()"]) (n := 4) rfl d0 d1
    obtain ⟨w, rfl, w1, w2⟩ := asc0 u e2
    exact (k_ix rfl e1).imp fun _ h => ⟨w, w1, w2, h⟩
  rintro _ ⟨w, w1, w2, rfl⟩
  have ew := e_lst (C := C) (ρ := [.un, bx b, x2, .dat (.str w), .un, .un, .dat (.str (X d))]) (a_cons (e_int (i := 58)) (a_cons (e_int (i := 59)) (a_cons (e_int (i := 60)) (a_cons (e_int (i := 61)) a_nil)))) rfl
  refine b_seq (b_for (ds := [.int 58, .int 59, .int 60, .int 61]) ew (.inr (.inr rfl)) (fun n ρ => ∃ u : Kd, ρ = [.un, bx b, x2, .dat (.str w), u, .un, .dat (.str (X d))]) ⟨.un, rfl⟩ ?_ ?_)
  · rintro v d' n a _ ha ⟨u, rfl⟩
    obtain ⟨m, m0, m1, rfl⟩ : ∃ m : Nat, 2 ≤ m ∧ m ≤ 61 ∧ a = .int (m : Int) := by
      have hm := List.mem_of_getElem? ha
      simp only [List.mem_cons, List.not_mem_nil, or_false] at hm
      rcases hm with rfl | rfl | rfl | rfl
      · exact ⟨58, by decide, by decide, rfl⟩
      · exact ⟨59, by decide, by decide, rfl⟩
      · exact ⟨60, by decide, by decide, rfl⟩
      · exact ⟨61, by decide, by decide, rfl⟩
    have e4 : E1 (C.pin v d') (tVar 4) [.un, bx b, x2, .dat (.str w), .dat (.int (m : Int)), .un, .dat (.str (X d))] (.dat (.int (m : Int))) := e_var rfl
    have e3 : E1 (C.pin v d') (tVar 3) [.un, bx b, x2, .dat (.str w), .dat (.int (m : Int)), .un, .dat (.str (X d))] (.dat (.str w)) := e_var rfl
    have la : (("(" : Str)).length = 1 ∧ ((",)" : Str)).length = 2 := by decide +kernel
    have l1 : (repS "(" m).length = m := by rw [repS_len, la.1, Nat.mul_one]
    have l2 : (repS ",)" m).length = m * 2 := by rw [repS_len, la.2]
    have ea : E1 (C.pin v d') (tOp rMulS (tC (.str "(")) (tVar 4)) [.un, bx b, x2, .dat (.str w), .dat (.int (m : Int)), .un, .dat (.str (X d))] (.dat (.str (repS "(" m))) := e_op1 e_str e4 (k_mul_s m0 (by decide +kernel) (by rw [la.1]; omega))
    have eb : E1 (C.pin v d') (tOp rMulS (tC (.str ",)")) (tVar 4)) [.un, bx b, x2, .dat (.str w), .dat (.int (m : Int)), .un, .dat (.str (X d))] (.dat (.str (repS ",)" m))) := e_op1 e_str e4 (k_mul_s m0 (by decide +kernel) (by rw [la.2]; omega))
    have a1 : Asc "(" := by unfold Asc; decide +kernel
    have a2 : Asc ",)" := by unfold Asc; decide +kernel
    exact b_if (T := fun bb => bb = false) (right (C' := C.pin v d') (e_cat (e_cat ea e3 (by omega)) eb (by rw [str_app_len]; omega)) ((a1.rep.app w1).app a2.rep) (by rw [str_app_len, str_app_len]; omega)) (fun h => by cases h) fun _ => b_next ⟨_, rfl⟩
  rintro _ ⟨u, rfl⟩
  have afig : ∀ (i : Int), 0 ≤ i → i < 9 → ∃ c, atI (tl "123456789") i = some c ∧ c < 128 := by
    intro i h0 h1
    obtain ⟨c, e1, e2⟩ := at_set (xs := tl "123456789") (n := 9) rfl h0 h1
    exact ⟨c, e1, (by decide +kernel : ∀ c ∈ tl "123456789", c < 128) c e2⟩
  refine q_asgS (S := fun k => ∃ y : Str, Asc y ∧ y.length = 1 ∧ k = .dat (.str y)) (e_op (S1 := fun k => k = .dat (.str "123456789")) e_str (e_draw ib rfl e_int (by decide) (by decide)) ?_) ?_
  · rintro _ _ rfl ⟨i, d0, d1, rfl⟩
    obtain ⟨c, e1, e2⟩ := afig i d0 d1
    refine (k_ixS (by decide +kernel) e1).imp fun _ h => ⟨_, ?_, ?_, h⟩
    · intro x hx
      have : x = c := by simpa [tl] using hx
      rw [this]
      exact e2
    · rfl
  rintro _ ⟨y, y1, y2, rfl⟩
  have ef := e_lst (C := C) (ρ := [.un, bx b, x2, .dat (.str w), u, .dat (.str y), .dat (.str (X d))]) (a_cons (e_int (i := 39)) (a_cons (e_int (i := 40)) (a_cons (e_int (i := 41)) a_nil))) rfl
  refine b_seq (b_for (ds := [.int 39, .int 40, .int 41]) ef (.inr (.inr rfl)) (fun n ρ => ∃ u : Kd, ρ = [.un, bx b, x2, .dat (.str w), u, .dat (.str y), .dat (.str (X d))]) ⟨u, rfl⟩ ?_ ?_)
  · rintro v d' n a _ ha ⟨u, rfl⟩
    obtain ⟨m, m0, m1, rfl⟩ : ∃ m : Nat, 2 ≤ m ∧ m ≤ 61 ∧ a = .int (m : Int) := by
      have hm := List.mem_of_getElem? ha
      simp only [List.mem_cons, List.not_mem_nil, or_false] at hm
      rcases hm with rfl | rfl | rfl
      · exact ⟨39, by decide, by decide, rfl⟩
      · exact ⟨40, by decide, by decide, rfl⟩
      · exact ⟨41, by decide, by decide, rfl⟩
    have ly : (repS y m).length = m := by rw [repS_len, y2, Nat.mul_one]
    have ey : E1 (C.pin v d') (tOp rMulS (tVar 5) (tVar 4)) [.un, bx b, x2, .dat (.str w), .dat (.int (m : Int)), .dat (.str y), .dat (.str (X d))] (.dat (.str (repS y m))) := e_op1 (e_var rfl) (e_var rfl) (k_mul_s m0 (by omega) (by rw [y2]; omega))
    have la : (("(" : Str)).length = 1 ∧ ((",)" : Str)).length = 2 := by decide +kernel
    have a1 : Asc "(" := by unfold Asc; decide +kernel
    have a2 : Asc ",)" := by unfold Asc; decide +kernel
    exact b_if (T := fun bb => bb = false) (t_or (a := false) (b := false) (right (C' := C.pin v d') ey y1.rep (by omega)) fun _ => right (C' := C.pin v d') (e_cat (e_cat e_str ey (by rw [la.1]; omega)) e_str (by rw [str_app_len, la.1, la.2]; omega)) ((a1.app y1.rep).app a2) (by rw [str_app_len, str_app_len, la.1, la.2]; omega)) (fun h => by cases h) fun _ => b_next ⟨_, rfl⟩
  rintro _ ⟨u, rfl⟩
  have ln : (("" : Str)).length = 0 ∧ (("0" : Str)).length = 1 ∧ (("," : Str)).length = 1 ∧ ((" " : Str)).length = 1 := by decide +kernel
  have b0 : Asc "" := by unfold Asc; decide +kernel
  have b1 : Asc "0" := by unfold Asc; decide +kernel
  have b2 : Asc "," := by unfold Asc; decide +kernel
  have b3 : Asc " " := by unfold Asc; decide +kernel
  have e6 : E1 C (tVar 6) [.un, bx b, x2, .dat (.str w), u, .dat (.str y), .dat (.str (X d))] (.dat (.str (X d))) := e_var rfl
  exact b_ret (e_and (a := true) (b := true) (e_right e_str b0 (by rw [ln.1]; omega)) fun _ => e_and (a := true) (b := true) (e_right (e_cat e_str (e_var rfl) (by rw [ln.2.1]; omega)) (b1.app y1) (by rw [str_app_len, ln.2.1]; omega)) fun _ => e_and (a := true) (b := true) (e_right (e_cat e6 e_str (by rw [ln.2.2.1]; omega)) (hd.asc.app b2) (by rw [str_app_len, ln.2.2.1]; omega)) fun _ => e_right (e_cat e_str e6 (by rw [ln.2.2.2]; omega)) (b3.app hd.asc) (by rw [str_app_len, ln.2.2.2]; omega)) rfl rfl
def t_law (K : PySem.W.Frag) : TS := (fun D σ H => (tRet (tCall (sp_law_all K) [] E0 (tCons (tVar 0) tNil))) D σ H)
theorem go_law (h : sp_law K vs H Q E) : t_law K { nx := fun _ H' => Q .non H', rt := Q } (L2.start ["script"] vs) H := by
  obtain ⟨l, ns, rfl, sq, fin⟩ := h
  exact ⟨.ref l, rfl, l, ns, rfl, sq, fin⟩
end
end Mh
namespace Mh
open PySem PySem.Spec PyProof.Rows L2 TL HotX
/-! ### while an exception is handled: iterators that come to their end -/
section
variable {prog : Program} {w : World} {A : Around} {E : Value → Shared → Prop} {s : Shared} {x1 : Addr}
def Held (h h' : Heap) : Prop := ∀ b o, h.get? b = some o → h'.get? b = some o
theorem hot_held {h h' : Heap} (c : HotAt A x1 h) (k : Held h h') : HotAt A x1 h' := by
  obtain ⟨c1, o, vs, c2, c3⟩ := c
  exact ⟨c1, o, vs, k _ _ c2, c3⟩
/-- the iterator's StopIteration, raised beside the handled exception -/
theorem stop_hot {α : Type} {Q : α → Shared → Prop} (hot : HotAt A x1 s.heap)
    (k : ∀ (e : Addr) (h' : Heap), Held s.heap h' → (∃ oe, h'.get? e = some oe ∧ oe.cls = .type "StopIteration") → E (.ref e) { s with heap := h' }) :
    wpAny (model prog w) A (newExc (.type "StopIteration") [] >>= fun e => (raiseNew e : Sem α)) Q E s := by
  refine wpAny_bind ?_
  simp only [newExc, newTuple]
  refine wpAny_bind (wpAny_newObj_type (wpAny_bind (m := firstArgMember _ _) (wpAny_of_eq (a := Value.none) (by first | rfl | (simp only [firstArgMember]; rfl)) (wpAny_newObj_type ?_ (by size_fits)))) (by size_fits))
  have up1 : ∀ {o1 : Obj}, Held s.heap (s.heap.push o1) := fun b o e => Heap.get?_push_of_some _ e
  have up : ∀ {o1 o2 : Obj}, Held s.heap ((s.heap.push o1).push o2) := fun b o e => Heap.get?_push_of_some _ (up1 b o e)
  have lt : ∀ {o1 : Obj}, x1 < (s.heap.push o1).objs.size := fun {o1} => by
    obtain ⟨_, ob, vs, c1, _⟩ := hot_held hot (up1 (o1 := o1))
    exact Heap.lt_size c1
  refine raiseNew_hot (hot_held hot up) (Nat.ne_of_lt lt) (Heap.get?_push_size _ rfl) rfl (by first | (simp; done) | (simp; omega) | (simp only [Array.size_append]; simp; omega)) (k _ _ (fun b o e => ?_) ⟨_, Heap.get?_update_self _ (Heap.get?_push_size _ rfl) rfl, rfl⟩)
  rw [Heap.get?_update_other _ _ (Nat.ne_of_gt (Heap.lt_size (Heap.get?_push_of_some _ e)))]
  exact up b o e
/-- the same below a change of one object -/
theorem stop_but {α : Type} {Q : α → Shared → Prop} {it : Addr} {h' : Heap} (hot : HotAt A x1 s.heap) (hne : x1 ≠ it) (sb : Heap.SameBut it s.heap h')
    (k : ∀ (e : Addr) (h2 : Heap), (∀ b o, b ≠ it → s.heap.get? b = some o → h2.get? b = some o) → (∃ oe, h2.get? e = some oe ∧ oe.cls = .type "StopIteration") → E (.ref e) { s with heap := h2 }) :
    wpAny (model prog w) A (newExc (.type "StopIteration") [] >>= fun e => (raiseNew e : Sem α)) Q E { s with heap := h' } := by
  obtain ⟨c0, ob, vs, c1, c2⟩ := hot
  exact stop_hot (s := { s with heap := h' }) (x1 := x1) ⟨c0, ob, vs, (sb.2 _ hne).trans c1, c2⟩ fun e h2 up he => k e h2 (fun b o hb q => up _ _ ((sb.2 b hb).trans q)) he
theorem seen_stop {it e : Addr} {h2 : Heap} {Q : Option Value → Shared → Prop} (hQ : ∀ h', (∀ b o, b ≠ it → s.heap.get? b = some o → h'.get? b = some o) → Q none { s with heap := h' })
    (up : ∀ b o, b ≠ it → s.heap.get? b = some o → h2.get? b = some o) (he : ∃ oe, h2.get? e = some oe ∧ oe.cls = .type "StopIteration") :
    wpAny (model prog w) A (isInstance (.ref e) (.type "StopIteration") >>= fun b => if b = true then pure (none : Option Value) else throw (.ref e)) Q E { s with heap := h2 } :=
  wpAny_bind (wpAny_isInstance (T := "StopIteration") (b := true) he isSubtype_stop (wpAny_pure (hQ _ up)))
/-- an iterator over a text, at its end -/
theorem str_stop {it : Addr} {x : Str} {t : Tok} {i : Nat} {ty : String} {Q : Option Value → Shared → Prop} (hot : HotAt A x1 s.heap) (hne : x1 ≠ it) (hty : ty = "str_ascii_iterator" ∨ ty = "str_iterator") (hit : s.heap.IsStrIter it ty x t i) (hx : x.cps[i]? = none)
    (hQ : ∀ h', (∀ b o, b ≠ it → s.heap.get? b = some o → h'.get? b = some o) → Q none { s with heap := h' }) : wpAny (model prog w) A (pyNext (.ref it)) Q E s := by
  have hot' : HotAt A.in1 x1 s.heap := hot
  obtain ⟨o, ho, hc, hd⟩ := id hit
  unfold pyNext
  rcases hty with rfl | rfl
  · refine wpAny_bind (wpAny_attempt (wpAny_callSpecial?_slot hit.typeIs F.slot_str_ascii_iterator_next (wpAny_call_entry F.slot_str_ascii_iterator_next hit.typeIs F.entry_str_ascii_iterator_next ?_ (F.args_str_ascii_iterator_next_1 _))))
    show wpAny _ _ (field (.ref it) 0 >>= _) _ _ s
    refine wpAny_bind (wpAny_field ho hd (x := .str x t) rfl ?_)
    show wpAny _ _ (field (.ref it) 1 >>= _) _ _ s
    refine wpAny_bind (wpAny_field ho hd (x := .int i 0) rfl ?_)
    simp only [Int.toNat_natCast, hx]
    refine wpAny_bind (wpAny_rule (wpAny_bind (wpAny_setField ho hd (by simp) (wpAny_bind (wpAny_letGo ?_)))))
    exact stop_but hot' hne (Heap.SameBut.update ..) fun e h2 up he => seen_stop hQ up he
  · refine wpAny_bind (wpAny_attempt (wpAny_callSpecial?_slot hit.typeIs F.slot_str_iterator_next (wpAny_call_entry F.slot_str_iterator_next hit.typeIs F.entry_str_iterator_next ?_ (F.args_str_iterator_next_1 _))))
    show wpAny _ _ (field (.ref it) 0 >>= _) _ _ s
    refine wpAny_bind (wpAny_field ho hd (x := .str x t) rfl ?_)
    show wpAny _ _ (field (.ref it) 1 >>= _) _ _ s
    refine wpAny_bind (wpAny_field ho hd (x := .int i 0) rfl ?_)
    simp only [Int.toNat_natCast, hx]
    refine wpAny_bind (wpAny_rule (wpAny_bind (wpAny_setField ho hd (by simp) (wpAny_bind (wpAny_letGo ?_)))))
    exact stop_but hot' hne (Heap.SameBut.update ..) fun e h2 up he => seen_stop hQ up he
/-- an iterator over a tuple, at its end -/
theorem tup_stop {it t : Addr} {i : Nat} {items : Array Value} {Q : Option Value → Shared → Prop} (hot : HotAt A x1 s.heap) (hne : x1 ≠ it) (hit : s.heap.IsTupleIter it t i) (ht : s.heap.IsTuple t items) (hx : items[i]? = none)
    (hQ : ∀ h', (∀ b o, b ≠ it → s.heap.get? b = some o → h'.get? b = some o) → Q none { s with heap := h' }) : wpAny (model prog w) A (pyNext (.ref it)) Q E s := by
  have hot' : HotAt A.in1 x1 s.heap := hot
  obtain ⟨o, ho, hc, hd⟩ := id hit
  obtain ⟨ol, hol, _, nl, hdl⟩ := ht
  unfold pyNext
  refine wpAny_bind (wpAny_attempt (wpAny_callSpecial?_slot hit.typeIs F.slot_tuple_iterator_next (wpAny_call_entry F.slot_tuple_iterator_next hit.typeIs F.entry_tuple_iterator_next ?_ (F.args_tuple_iterator_next_1 _))))
  show wpAny _ _ (field (.ref it) 0 >>= _) _ _ s
  refine wpAny_bind (wpAny_field ho hd (x := .ref t) rfl ?_)
  show wpAny _ _ (if (Value.ref t == Value.none) = true then _ else _) _ _ s
  rw [if_neg (show ¬ ((Value.ref t == Value.none) = true) from Bool.false_ne_true)]
  show wpAny _ _ (field (.ref it) 1 >>= _) _ _ s
  refine wpAny_bind (wpAny_field ho hd (x := .int i 0) rfl ?_)
  show wpAny _ _ (seqItems? (.ref t) >>= _) _ _ s
  refine wpAny_bind (wpAny_seqItems hol hdl ?_)
  simp only [Int.toNat_natCast, hx]
  refine wpAny_bind (wpAny_rule (wpAny_bind (wpAny_setField ho hd (by simp) ?_)))
  exact stop_but hot' hne (Heap.SameBut.update ..) fun e h2 up he => seen_stop hQ up he
/-- the walk over a tuple with the handled exception beside it -/
theorem tup_walk {I ax x1 : Addr} {o1 : Obj} {vs1 : Array Value} (hh : A.handled = some (.ref x1)) (d1 : o1.data = .fields vs1) (c1 : vs1[2]? = some .none) (hI : x1 ≠ I) (hne : ax ≠ I) (items : Array Value) :
    Walks prog w A I [I, ax, x1] [I] items.size (fun i v => items[i]? = some v) (fun i h => (h.IsTupleIter I ax i ∧ h.IsTuple ax items) ∧ h.get? x1 = some o1) where
  sub := fun b hb => by
    rw [List.mem_singleton] at hb
    rw [hb]
    exact List.mem_cons_self
  frame := fun _ _ _ st hk => ⟨⟨st.1.1.at fun o e => hk I (by simp) o e, st.1.2.at fun o e => hk ax (by simp) o e⟩, hk x1 (by simp) _ st.2⟩
  item := fun i s Q E hi st hQ => by
    refine wpAny_pyNext_tuple_item st.1.1 st.1.2 (x := items[i]) (by simp [hi]) fun h' hit' hs' => ?_
    exact hQ _ h' s.toks (by simp [hi]) ⟨⟨hit', st.1.2.extBut hs'.extBut hne⟩, (hs'.2 _ hI).trans st.2⟩ fun b o hb e => (hs'.2 b fun h => hb (by simp [h])).trans e
  done := fun s Q E st hQ => tup_stop ⟨hh, o1, vs1, st.2, d1, c1⟩ hI st.1.1 st.1.2 (by simp) fun h' he' => hQ h' s.toks fun b o hb e => he' b o (fun h => hb (by simp [h])) e
  self := fun _ _ _ _ st hQ => wpAny_pyIter_tupleiter st.1.1 hQ
theorem max2_hot {a b : Int} {t u : Tok} {Q : Value → Shared → Prop} (hot : HotAt A x1 s.heap) (h : ∀ h' tk, Held s.heap h' → Q (if b > a then .int b u else .int a t) { s with heap := h', toks := tk }) :
    wpAny (model prog w) A (call (.builtin "max") [.int a t, .int b u]) Q E s := by
  obtain ⟨hh, o1, vs1, g1, d1, c1⟩ := hot
  have lt1 := Heap.lt_size g1
  have hT : (s.heap.push { cls := .type "tuple", data := .seq #[.int a t, .int b u] }).IsTuple s.heap.objs.size (intItems #[(a, t), (b, u)]) := ⟨_, Heap.get?_push_size _ rfl, rfl, 0, by simp [intItems]⟩
  have sz : (s.heap.push { cls := .type "tuple", data := .seq #[.int a t, .int b u] }).objs.size = s.heap.objs.size + 1 := Heap.size_push ..
  refine call_max_two (wpAny_pyIter_tuple hT ⟨_, [_, s.heap.objs.size, x1], [_], _, _, _, _, rfl,
    tup_walk (A := A.in1) hh d1 c1 (by rw [sz]; exact Nat.ne_of_lt (Nat.lt_succ_of_lt lt1)) (by rw [sz]; exact Nat.ne_of_lt (Nat.lt_succ_self _)) (intItems #[(a, t), (b, u)]),
    ⟨⟨⟨_, Heap.get?_push_size _ rfl, rfl, rfl⟩, hT.push _⟩, Heap.get?_push_of_some _ (Heap.get?_push_of_some _ g1)⟩, fun c hc => ?_, by simp [intItems], CmpOf.ints_gt (numAt #[(a, t), (b, u)]) (fun _ _ => intItems_at), fun v h' tk hP hk => ?_⟩)
  · show c < ((s.heap.push _).push _).objs.size
    rw [Heap.size_push, sz]
    simp only [List.mem_cons, List.not_mem_nil, or_false, sz] at hc
    rcases hc with rfl | rfl | rfl
    · exact Nat.lt_succ_self _
    · exact Nat.lt_succ_of_lt (Nat.lt_succ_self _)
    · exact Nat.lt_succ_of_lt (Nat.lt_succ_of_lt lt1)
  · have held : Held s.heap h' := fun c o e => hk c o (by
      rw [List.mem_singleton, sz]
      exact Nat.ne_of_lt (Nat.lt_succ_of_lt (Heap.lt_size e))) (Heap.get?_push_of_some _ (Heap.get?_push_of_some _ e))
    have q := h h' tk held
    have hv : v = if b > a then Value.int b u else Value.int a t := by
      have best : ∀ f : Nat → Nat → Bool, argBest f 1 = if f 1 0 = true then 1 else 0 := fun f => by
        simp [argBest]
      have hP' : (intItems #[(a, t), (b, u)])[argBest (fun i j => decide (numAt #[(a, t), (b, u)] i > numAt #[(a, t), (b, u)] j)) 1]? = some v := by
        have e : (intItems #[(a, t), (b, u)]).size - 1 = 1 := by simp [intItems]
        rw [e] at hP
        exact hP
      rw [best] at hP'
      by_cases hba : b > a <;> (simp [numAt, hba] at hP'; simpa [intItems, hba] using hP'.symm)
    rw [hv]
    exact q
end
end Mh
namespace Mh
open PySem PySem.Spec PyProof.Rows L2 TL HotX L2H
section
variable {X : Cx}
theorem call_max2H (hc : HotC X) : CallR X (.builtin "max") (fun xs H Q => ∃ i j, xs = [.int i, .int j] ∧ Q (.int (if j > i then j else i)) H) := by
  rintro pins s σ H xs us Q I r ⟨i, j, rfl, q⟩
  obtain ⟨u, w', rfl, ⟨t, rfl⟩, ⟨t', rfl⟩⟩ := vals2 r
  obtain ⟨x1, hot⟩ := hc.at I
  refine max2_hot hot fun h' tk k => ⟨_, H, I.kept k, ?_, q⟩
  split <;> exact ⟨_, rfl⟩
theorem iter_str {M : Program} {w : World} {A : Around} {E : Value → Shared → Prop} {s : Shared} {x : Str} {t : Tok} {Q : Value → Shared → Prop}
    (h : ∀ ty, ty = "str_ascii_iterator" ∨ ty = "str_iterator" → Q (.ref s.heap.objs.size) { s with heap := s.heap.push { cls := .type ty, data := .fields #[.str x t, .int 0 0] } }) : wpAny (model M w) A (pyIter (.str x t)) Q E s := by
  cases ha : x.cps.all (· < 128)
  · exact wpAny_pyIter_wide ha (h _ (.inr rfl))
  · exact wpAny_pyIter_ascii ha (h _ (.inl rfl))
theorem next_str {M : Program} {w : World} {A : Around} {E : Value → Shared → Prop} {s : Shared} {x : Str} {t : Tok} {it : Addr} {ty : String} {i c : Nat} {Q : Option Value → Shared → Prop} (hty : ty = "str_ascii_iterator" ∨ ty = "str_iterator") (st : s.heap.IsStrIter it ty x t i) (hx : x.cps[i]? = some c)
    (hQ : ∀ h' u tk, h'.IsStrIter it ty x t (i + 1) → Heap.SameBut it s.heap h' → Q (some (.str ⟨#[c]⟩ u)) { s with heap := h', toks := tk }) : wpAny (model M w) A (pyNext (.ref it)) Q E s := by
  rcases hty with rfl | rfl
  · exact wpAny_pyNext_ascii_item st hx fun h' a b => hQ _ _ _ a b
  · exact wpAny_pyNext_wide_item st hx fun h' a b => hQ _ _ _ a b
theorem self_str {M : Program} {w : World} {A : Around} {E : Value → Shared → Prop} {s : Shared} {x : Str} {t : Tok} {it : Addr} {ty : String} {i : Nat} {Q : Value → Shared → Prop} (hty : ty = "str_ascii_iterator" ∨ ty = "str_iterator") (st : s.heap.IsStrIter it ty x t i) (hQ : Q (.ref it) s) : wpAny (model M w) A (pyIter (.ref it)) Q E s := by
  rcases hty with rfl | rfl
  · exact wpAny_pyIter_striter_ascii st hQ
  · exact wpAny_pyIter_striter_wide st hQ
/-- [elt for target in a text if ..] while an exception is handled -/
theorem pe_lcSH {elt tg iter : Expr} {ifs : List Expr} {scope : Scope} {own : List (Str × Nat)} {pos : Pos} {ta : TE} {g : TG} {tt : TT} {te : TE} (hc : HotC X) (hN : X.N.Nodup) (ha : PE X iter ta) (ok : BlkOk X.N X.env.scope scope own)
    (hg : ∀ (s : Shared) (H : Hp) (C : Addr) (cl : List (Str × Addr)) (fp : List Addr), PG (X.blk s H scope (compEnvC scope cl C X.env) fp) tg g) (ht : ∀ (s : Shared) (H : Hp) (C : Addr) (cl : List (Str × Addr)) (fp : List Addr), PTs (X.blk s H scope (compEnvC scope cl C X.env) fp) ifs tt)
    (he : ∀ (s : Shared) (H : Hp) (C : Addr) (cl : List (Str × Addr)) (fp : List Addr), PE (X.blk s H scope (compEnvC scope cl C X.env) fp) elt te) (hs : ∀ x, foldedSetIterable iter X.env x = pure x := by intro _; rfl) :
    PE X (.ListComp elt [⟨tg, iter, ifs, 0⟩] scope pos) (tLc (iStr ta) g tt te (own.map (·.2))) := by
  refine ⟨fun pins s σ H Q I h => ?_⟩
  obtain ⟨p, ⟨hh, pv, pd, pc⟩, hp⟩ := hc
  rw [eval_ListComp]
  refine wpAny_comprehension_free rfl hs (closure_ok fun y hy e => (ok.free y hy e).elim (fun k => I.ok.has _ (.inl k)) fun k => I.ok.has _ (.inr k)) ok.kind (fun y hy e => by rw [ok.uniq y hy, e])
    (thn (ha.run pins s σ H _ I h) fun xv s1 hx => ?_)
  obtain ⟨y, H1, I1, r1, x, ey, q⟩ := hx
  subst ey
  obtain ⟨t, rfl⟩ := r1
  refine iter_str fun ty hty => ?_
  refine wpAny_newObj_type (newEnv_comp ?_) (by show 0 ≤ sizeLine; decide)
  generalize hit : s1.heap.objs.size = it
  generalize ho : ({ cls := .type ty, data := .fields #[.str x t, .int 0 0] } : Obj) = oi
  have hI2 : Inv X pins σ H1 { s1 with heap := s1.heap.push oi } := I1.kept (t' := s1.toks) fun b o e => Heap.get?_push_of_some _ e
  have hfp : FpOk X pins H1 it := I1.fpOk (Nat.le_of_eq hit) (I1.hok.fresh (Nat.le_of_eq hit))
  have hst : (s1.heap.push oi).IsStrIter it ty x t 0 := by
    subst hit ho
    exact ⟨_, Heap.get?_push_size _ rfl, rfl, rfl⟩
  have hsz : (s1.heap.push oi).objs.size = it + 1 := by rw [Heap.size_push, hit]
  generalize hs2 : ({ s1 with heap := s1.heap.push oi } : Shared) = s2 at hI2
  have hh2 : s2.heap = s1.heap.push oi := by rw [← hs2]
  rw [← hh2] at hst hsz
  generalize hD : s2.heap.objs.size = D
  obtain ⟨W, ⟨m0, w0⟩, turn⟩ := q D (hI2.hok.fresh (Nat.le_of_eq hD))
  generalize hs3 : ({ s2 with heap := s2.heap.push { cls := .type "list", data := .seq ([] : List Value).toArray } } : Shared) = s3
  have hI3 : Inv X pins σ (upd H1 D (.lst [])) s3 := by
    rw [← hs3]
    refine hI2.laid (t' := s2.toks) (fun b o e => Heap.get?_push_of_some _ e) (Nat.le_of_eq hD) ⟨Nat.zero_le _, [], 0, .nil, ?_⟩
    rw [← hD]
    exact Heap.get?_push_size _ rfl
  have hh3 : s3.heap = s2.heap.push { cls := .type "list", data := .seq ([] : List Value).toArray } := by rw [← hs3]
  have itD : it ≠ D := by
    rw [← hD, hsz]
    exact Nat.ne_of_lt (Nat.lt_succ_self _)
  have itL : it < s3.heap.objs.size := by
    rw [hh3, Heap.size_push, hsz]
    exact Nat.lt_succ_of_lt (Nat.lt_succ_self _)
  generalize hH3 : upd H1 D (.lst []) = H3 at hI3 w0
  have nit3 : H3 it = none := by
    rw [← hH3, upd_ne itD]
    exact hfp.1
  have f3 : ∀ b ∈ [it], FpOk X pins H3 b ∧ b < s3.heap.objs.size := fun b hb => by
    rw [List.mem_singleton] at hb
    subst hb
    exact ⟨⟨nit3, hfp.2⟩, itL⟩
  have gp := hI3.pin p (List.mem_append_left _ hp)
  have nstk : p.1 ∉ frs X.stack := fun hm => (List.mem_cons.mp (hI3.stkSub p.1 hm)).elim gp.2.2.1 gp.2.2.2.1
  have npi : p.1 ≠ it := hfp.2.2.2.2.2 p (List.mem_append_left _ hp)
  have hI4 := block_start hI3 ok hN f3
  have pg := hg s3 H3 s3.heap.objs.size (cellsFrom (s3.heap.objs.size + 1) scope.names (cloFrom X.env.cells scope.names [])) [it]
  have pt := ht s3 H3 s3.heap.objs.size (cellsFrom (s3.heap.objs.size + 1) scope.names (cloFrom X.env.cells scope.names [])) [it]
  have pe := he s3 H3 s3.heap.objs.size (cellsFrom (s3.heap.objs.size + 1) scope.names (cloFrom X.env.cells scope.names [])) [it]
  show codeAny _ _ (.compStart (.ListComp elt [⟨tg, iter, ifs, 0⟩] scope pos) 0 (.ref it) (.ref D) (compEnvC scope (cellsFrom (s3.heap.objs.size + 1) scope.names (cloFrom X.env.cells scope.names [])) s3.heap.objs.size X.env)) (compPost (model X.prog X.w) X.A X.xe none _ (.ref D) s3.heap.objs.size) { s3 with heap := pushCells (s3.heap.push { cls := .type "dict", data := .dict #[] }) scope.names }
  generalize hce : compEnvC scope (cellsFrom (s3.heap.objs.size + 1) scope.names (cloFrom X.env.cells scope.names [])) s3.heap.objs.size X.env = ce at hI4 pg pt pe ⊢
  have cL : ce.locals = s3.heap.objs.size := by rw [← hce]; rfl
  have hst4 : (pushCells (s3.heap.push { cls := .type "dict", data := .dict #[] }) scope.names).IsStrIter it ty x t 0 := by
    obtain ⟨o, h1, h2⟩ := hst
    exact ⟨o, pushCells_keeps _ _ _ _ (Heap.get?_push_of_some _ (by rw [hh3]; exact Heap.get?_push_of_some _ h1)), h2⟩
  generalize hs4 : ({ s3 with heap := pushCells (s3.heap.push { cls := .type "dict", data := .dict #[] }) scope.names } : Shared) = s4 at hI4 ⊢
  have hst5 : s4.heap.IsStrIter it ty x t 0 := by rw [← hs4]; exact hst4
  -- within the block
  have fpB : ∀ {σ' : L2.St} {H' : Hp} {s' : Shared}, Inv (X.blk s3 H3 scope ce [it]) [] σ' H' s' → H' it = none → FpOk (X.blk s3 H3 scope ce [it]) [] H' it := fun {σ' H' s'} J hn =>
    ⟨hn, (J.ok.exf it List.mem_cons_self).1, J.ok.exfs it List.mem_cons_self, .inl List.mem_cons_self, fun x c e => (J.ok.exf it List.mem_cons_self).2 x c e, fun p hp => absurd (show p ∈ ([] : List (Addr × Obj)) ++ [] from hp) (by simp)⟩
  have hotB : ∀ {σ' : L2.St} {H' : Hp} {s' : Shared}, Inv (X.blk s3 H3 scope ce [it]) [] σ' H' s' → HotAt X.A p.1 s'.heap := fun {σ' H' s'} J =>
    ⟨hh, p.2, pv, J.base.keep p.1 p.2 gp.1 gp.2.1 nstk (fun hm => npi (List.mem_singleton.mp hm)), pd, pc⟩
  have obj : ∀ {h : Heap} {i : Nat}, h.IsStrIter it ty x t i → ∀ b ∈ [it], ∃ o, h.get? b = some o ∧ ∀ v, o.data ≠ .cell v := fun {h i} st b hb => by
    rw [List.mem_singleton] at hb
    subst hb
    obtain ⟨o, e, c, d⟩ := st
    exact ⟨o, e, fun v z => by rw [d] at z; cases z⟩
  have loop : codeAny (model X.prog X.w) X.A (.compLoop (.ListComp elt [⟨tg, iter, ifs, 0⟩] scope pos) 0 (.ref it) (.ref D) ce) (compPost (model X.prog X.w) X.A X.xe none (EP X pins σ Q) (.ref D) s3.heap.objs.size) s4 := by
    refine compLoop_any (fun n s' => ∃ i H', Inv (X.blk s3 H3 scope ce [it]) [] (wipe σ (own.map (·.2))) H' s' ∧ s'.heap.IsStrIter it ty x t i ∧ H' it = none ∧ W i n H') ?_ m0 ⟨0, H3, hI4, hst5, nit3, w0⟩
    rintro n s5 ⟨i, H5, I5, st5, n5, w5⟩
    obtain ⟨f0, f1, f2, f3', f4, f5⟩ := fpB I5 n5
    rcases turn i n H5 w5 with ⟨stop, qq⟩ | ⟨go, Nx, hNx, step⟩
    · refine str_stop (hotB I5) npi hty st5 (Array.getElem?_eq_none stop) fun h' eb => ?_
      have I6 : Inv (X.blk s3 H3 scope ce [it]) [] (wipe σ (own.map (·.2))) H5 { s5 with heap := h' } := I5.turned (t' := s5.toks) eb f0 f1 f3' f4 f5
      have I7 : Inv X pins σ H5 { s5 with heap := h' } := hI3.call' (ch := [it]) I6.os I6.base I6.hok I6.bare fun b hb => ⟨(f3 b hb).1.2.2.2.1, (f3 b hb).1.2.1, (f3 b hb).1.2.2.2.2.1, (f3 b hb).1.2.2.2.2.2⟩
      have nC : H5 s3.heap.objs.size = none := by
        have z : H5 ce.locals = none := I6.free
        rwa [cL] at z
      obtain ⟨m, hn, _⟩ := I6.loc
      have hn : Heap.Ns h' ce.locals m := hn
      rw [cL] at hn
      obtain ⟨g0, g1, g2, g3, g4, g5⟩ := hI3.fpOk (Nat.le_refl _) nC
      exact ⟨m, hn, fun h'' sb => ⟨.ref D, H5, I7.turned (t' := s5.toks) (fun b o hb e => (sb.2 b hb).trans e) g0 g1 g3 g4 g5, rfl, qq⟩⟩
    · obtain ⟨c, hcx⟩ : ∃ c, x.cps[i]? = some c := ⟨_, Array.getElem?_eq_getElem (show i < x.cps.size from go)⟩
      refine next_str hty st5 hcx fun h' u tk st6 sb => ?_
      have I6 : Inv (X.blk s3 H3 scope ce [it]) [] (wipe σ (own.map (·.2))) H5 { s5 with heap := h', toks := tk } := I5.turned (fun b o hb e => (sb.2 b hb).trans e) f0 f1 f3' f4 f5
      obtain ⟨oi', e1, e2, e3⟩ := id st6
      refine go_of (s := { s5 with heap := h', toks := tk }) e1 e2 e3 (by rcases hty with rfl | rfl <;> decide) ?_
      have I7 := I6.pinned (fun b hb => by rw [List.mem_singleton.mp hb]; exact fpB I6 n5) (obj st6)
      refine thnF (pg.run _ _ _ H5 (.str ⟨#[c]⟩) _ _ I7 ⟨u, rfl⟩ (step _ H5 ⟨rfl, c, hcx, rfl⟩)) fun _ s8 ⟨σ8, H8, I8, hw8, q8⟩ => ?_
      refine thnF (pt.run _ s8 σ8 H8 _ I8 q8) fun b s9 ⟨H9, I9, q9⟩ => ?_
      have fin : ∀ {s' : Shared} {H' : Hp}, Inv (X.blk s3 H3 scope ce [it]) ([] ++ pinsAt [it] h') σ8 H' s' → Nx H' → ∃ m, m < n ∧ ∃ i H', Inv (X.blk s3 H3 scope ce [it]) [] (wipe σ (own.map (·.2))) H' s' ∧ s'.heap.IsStrIter it ty x t i ∧ H' it = none ∧ W i m H' := fun {s' H'} J nx => by
        obtain ⟨m', hm, w'⟩ := hNx H' nx
        have pz := J.pin (it, oi') (List.mem_append_right _ (List.mem_append_right _ (mem_pinsAt List.mem_cons_self e1)))
        refine ⟨m', hm, i + 1, H', (J.unpinned (pins := [])).weak (by rw [← hw8, wipe_length]) (fun j v e => ?_), ⟨oi', pz.1, e2, e3⟩, pz.2.1, w'⟩
        rw [← hw8] at e
        exact (wipe_some e).1
      cases b with
      | false => exact fin I9 q9
      | true => exact thnF (pe.run _ s9 σ8 H9 _ I9 q9) fun z s10 ⟨yv, H10, I10, r10, acc, hD10, hz10, nx⟩ => app_ok (X := X.blk s3 H3 scope ce [it]) I10 hD10 hz10 r10 fun s11 I11 => fin I11 nx
  exact codeAny_compStart_list loop (self_str hty hst5 loop)
end
end Mh
namespace Mh
open PySem PySem.Spec PyProof.Rows L2 TL L2H
/-! ### defs called where an exception is handled; calls whose wish hangs on the names -/
section
variable {X : Cx} {CX : CXT} {g : Bool} {k : Nat} {ps : List Str} {sp : Sp} {x : Str} {p pos : Pos} {e : Expr} {es : List Expr} {t : TA}
theorem pe_clS {E : L2.St → XK} (c : Cl X.prog X.w X.K X.mg X.base CX g x k ps sp) (room : Room k X.A) (gd : g = true → X.A.guards = some []) (pass : ∀ σ, PassesAt CX X σ (E σ)) (gl : Gl X x) (args : PA X (e :: es) t) (h1 : (x == ("__debug__" : Str)) = false := by decide)
    (h2 : starEach (e :: es) X.env = (false, eval e X.env) :: starEach es X.env := by rfl) (h3 : (backTo pos (starEach es X.env)).any (·.1) = false := by rfl) : PE X (.Call (.Name x p) (e :: es) [] pos) (tCallS sp E t) := ⟨fun pins s σ H Q I want => by
  obtain ⟨f, fd, F, m, keep, bind⟩ := c.ex
  refine wpAny_Call_Name_kw (ld_glob I gl m (PySem.W.callWith_K (h₀ := X.base) I.ok.mod.kin keep (thn (args.run pos pins s σ H _ I want) ?_) h2 h3) h1)
  rintro us s1 ⟨vs, H1, I1, vals, prom⟩
  refine ⟨I1.kIn, ?_⟩
  have b := bind s1 us I1.kIn (by rw [List.append_nil, ← vals.length]; exact F.len _ _ _ _ prom)
  rw [List.append_nil] at b
  refine wpAny_call (codeAny_mono (F.run X.A X.stack s1 H1 ⟨us, []⟩ us vs Q (E σ) room gd I1.env0 b vals prom) fun out s' h => ?_)
  match out, h with
  | .error err, h => exact pass σ pins H1 s1 err s' I1 h
  | .ok (.ret u), h => exact I1.after h⟩
/-- a name that stands for a def, called where an exception is handled -/
structure ClH (P : Program) (w : World) (K : PySem.W.Frag) (mg : Str → Option Value) (base : Heap) (CX : CXT) (x : Str) (k : Nat) (ps : List Str) (sp : Sp) : Prop where
  ex : ∃ f fd, FnH P w K mg base CX k f fd ps sp ∧ mg x = some (.ref f) ∧ PySem.W.keepIn K (.ref f) = true ∧ Binds K fd ps []
theorem pe_clH {E : XK} (c : ClH X.prog X.w X.K X.mg X.base CX x k ps sp) (room : RoomH k X.A) (hot : HotC X) (pass : ∀ σ, PassesAt CX X σ E) (gl : Gl X x) (args : PA X (e :: es) t) (h1 : (x == ("__debug__" : Str)) = false := by decide)
    (h2 : starEach (e :: es) X.env = (false, eval e X.env) :: starEach es X.env := by rfl) (h3 : (backTo pos (starEach es X.env)).any (·.1) = false := by rfl) : PE X (.Call (.Name x p) (e :: es) [] pos) (tCall sp [] E t) := ⟨fun pins s σ H Q I want => by
  obtain ⟨f, fd, F, m, keep, bind⟩ := c.ex
  refine (pe_callH (E := fun _ => E) F room hot gl m keep bind pass args h1 h2 h3).run pins s σ H Q I ?_
  have e : (fun (vs : List V) (H2 : Hp) => sp (vs ++ []) H2 Q E) = fun vs H2 => sp vs H2 Q E := by
    funext vs H2
    rw [List.append_nil]
  have want : t σ H (fun vs H2 => sp (vs ++ []) H2 Q E) := want
  rw [e] at want
  exact want⟩
end
section
variable {P : Program} {w : World} {K : PySem.W.Frag} {mg : Str → Option Value} {base : Heap} {CX : CXT} {k : Nat} {f : Addr} {fd : FuncData} {ps N : List Str} {sp : Sp} {x qual : Str} {params : Arguments} {body : List Stmt} {scope : Scope}
theorem clH_of (F : FunD K x qual params body scope [] [] f fd) (m : mg x = some (.ref f)) (sc : FnScope N ps scope) (len : ∀ vs H Q E, sp vs H Q E → vs.length = ps.length)
    (bind : ∀ (kV doc pm : Value) (an : Option Addr) (cdv ct : Value) (us : List Value), us.length = ps.length → bindArgs (PySem.W.fnOf x qual params body scope .none kV doc pm an cdv ct) ⟨us, []⟩ = pure (ps.zip us))
    (hb : ∀ (cdv : Value) (A : Around) (outer : List Env) (s : Shared) (H : Hp) (vs : List V) (Q : VK) (E : XK) (p : Addr × Obj), Hot1 A p → RoomH k (A.deeper (envOfC qual scope s.heap.objs.size f cdv)) → sp vs H Q E →
      ∃ t, PSs (L2H.cxH CX P w K mg base N qual scope f cdv A outer s H E p) body t ∧ t { nx := fun _ H' => Q .non H', rt := Q } (L2.start N vs) H) : ClH P w K mg base CX x (k + 1) ps sp := by
  have b : Binds K fd ps [] := F.bindsN bind
  have kp := F.kp
  obtain ⟨oc, od, dV, kV, doc, pm, an, cdv, ct, osl, rfl, there, code, _, _⟩ := F.ex
  exact ⟨f, _, fn_ofH there code sc len fun A outer s H vs Q E p hot room prom => hb cdv A outer s H vs Q E p hot room prom, m, kp, b⟩
end
end Mh
namespace Mh
open PySem PySem.Spec PyProof.Rows L2
/-! ### a Hook that tells of the own exceptions' __init__ too -/
/-- such an __init__: the class's name, the def -/
structure IniD where
  x : Str
  params : Arguments
  body : List Stmt
  scope : Scope
  flds : List Str
abbrev FnI : Type := Option (Str × Str × Arguments × FuncBody × Scope × Addr × List Str × Addr)
def iniF (K : PySem.W.Frag) (d : IniD) : Addr := He.ma K (He.ga K d.x) "__init__"
def iniW (K : PySem.W.Frag) (d : IniD) : FnI := match K.lookup (iniF K d) with
  | some ⟨_, _, .func fd, _⟩ => some (fd.name, fd.qualname, fd.params, fd.body, fd.scope, fd.globals, fd.closure.map (·.1), fd.builtins)
  | _ => none
def IniD.qual (d : IniD) : Str := d.x ++ ".__init__"
def IniD.val (d : IniD) : FnI := some ("__init__", d.qual, d.params, .stmts d.body, d.scope, mainGlobals, ["__class__"], builtinsNs)
def clsB (K : PySem.W.Frag) (C : Addr) : Bool := match K.lookup C with
  | some ⟨.type t, _, .cls cd, sl⟩ => (match cd.mro, sl.toList with
    | .ref C' :: bm, [_, _, _, _, some (.builtin n), _] => decide (t = "type") && (decide (C' = C) && (decide (n = "ValueError.__new__") && (!cd.hasDel && (cd.hasDict && HandSPX.refsVE bm))))
    | _, _ => false)
  | _ => false
def fileB (P : Program) (vs : Array Value) : Bool := match (vs[2]? : Option Value) with
  | some (Value.str file _) => (P.main.file : Str) == file
  | _ => false
theorem fileB_ok {P : Program} {vs : Array Value} (h : fileB P vs = true) : ∃ file tf, vs[2]? = some (.str file tf) ∧ ((P.main.file : Str) == file) = true := by
  unfold fileB at h
  split at h
  · rename_i file tf e
    exact ⟨file, tf, e, h⟩
  · cases h
def fnB (P : Program) (K : PySem.W.Frag) (f C : Addr) (q : Str) : Bool := match K.lookup f with
  | some ⟨_, _, .func fd, _⟩ => (match fd.closure, fd.code, fd.defaults with
    | [(_, cc)], .ref cda, .none => PySem.W.codeIn K (.ref cda) q && ((match K.lookup cc with
      | some ⟨_, _, .cell (some (.ref D)), _⟩ => decide (D = C)
      | _ => false) && (match K.lookup cda with
      | some ⟨_, _, .fields vs, _⟩ => fileB P vs
      | _ => false))
    | _, _, _ => false)
  | _ => false
def iniB (P : Program) (K : PySem.W.Frag) (d : IniD) : Bool :=
  He.eqO (PySem.W.nsIn K mainGlobals d.x) (some (some (.ref (He.ga K d.x)))) && (clsB K (He.ga K d.x) && (fnB P K (iniF K d) (He.ga K d.x) d.qual && (He.eqO (PySem.W.findIn K (.ref (He.ga K d.x)) "__setattr__") (some (some (.builtin "object.__setattr__"))) &&
  (decide (PySem.W.subIn K (.ref (He.ga K d.x)) (.type "BaseException") = some true) && (decide (PySem.W.typeIn K (.ref (He.ga K d.x)) = some (.type "type")) && (PySem.W.keepIn K (.ref (He.ga K d.x)) &&
  (He.eqO (PySem.W.findIn K (.ref (He.ga K d.x)) "__init__") (some (some (.ref (iniF K d)))) && (decide (PySem.W.typeIn K (.ref (iniF K d)) = some (.type "function")) &&
  (decide (PySem.W.ks_superIn K (He.ga K d.x) (He.ga K d.x) "__init__" = some (some (.builtin "ValueError.__init__"))) && (decide (PySem.W.subIn K (.ref (He.ga K d.x)) (.type "ValueError") = some true) && (decide (PySem.W.mroIn K (He.ga K d.x) (.ref (He.ga K d.x)) = some true) &&
  (He.eqO (PySem.W.nsIn K cStatics "thirdparty.any") (some none) && (d.flds.all fun f => He.eqO (PySem.W.findIn K (.ref (He.ga K d.x)) f) (some none))))))))))))))
theorem clsB_ok {K : PySem.W.Frag} {C : Addr} (h : clsB K C = true) : ∃ nm q N bs bm sn sub ab col dd k0 k1 k2 k3 k5, K.lookup C = some (excClassObj nm q C N bs bm true sn sub ab col dd k0 k1 k2 k3 k5 "ValueError.__new__") ∧ HandSPX.refsVE bm = true := by
  unfold clsB at h
  split at h
  · rename_i t dd cd sl ho
    split at h
    · rename_i C' bm k0 k1 k2 k3 n k5 hm hs
      simp only [Bool.and_eq_true, decide_eq_true_eq, Bool.not_eq_true'] at h
      obtain ⟨rfl, rfl, rfl, hdel, hdict, hv⟩ := h
      obtain ⟨nm, bs, mro, ns, qn, hd, sn, sub, ab, col, del⟩ := cd
      dsimp only at hm hdel hdict
      subst hm hdel hdict
      have hsl : sl = #[k0, k1, k2, k3, some (.builtin "ValueError.__new__"), k5] := by
        obtain ⟨l⟩ := sl
        simp only at hs
        rw [hs]
      subst hsl
      exact ⟨_, _, _, _, _, _, _, _, _, _, _, _, _, _, _, ho, hv⟩
    · cases h
  · cases h
theorem fnB_ok {P : Program} {K : PySem.W.Frag} {f C : Addr} {q : Str} (h : fnB P K f C q = true) : ∃ oc od fd osl cn cda cc ccl cl cdd cld ccs csl vs file tf,
    K.lookup f = some ⟨oc, od, .func fd, osl⟩ ∧ fd.closure = [(cn, cc)] ∧ fd.code = .ref cda ∧ fd.defaults = .none ∧ PySem.W.codeIn K (.ref cda) q = true ∧
    K.lookup cda = some ⟨ccl, cdd, .fields vs, ccs⟩ ∧ vs[2]? = some (.str file tf) ∧ ((P.main.file : Str) == file) = true ∧ K.lookup cc = some ⟨cl, cld, .cell (some (.ref C)), csl⟩ := by
  unfold fnB at h
  split at h
  · rename_i oc od fd osl ho
    split at h
    · rename_i cn cc cda h1 h2 h3
      simp only [Bool.and_eq_true] at h
      obtain ⟨hc, h4, h5⟩ := h
      split at h4
      · rename_i cl cld D csl hcc
        have eD : D = C := of_decide_eq_true h4
        subst eD
        split at h5
        · rename_i ccl cdd vs ccs hcd
          obtain ⟨file, tf, hvs, hf⟩ := fileB_ok h5
          exact ⟨oc, od, fd, osl, cn, cda, cc, ccl, cl, cdd, cld, ccs, csl, vs, file, tf, ho, h1, h2, h3, hc, hcd, hvs, hf, hcc⟩
        · cases h5
      · cases h4
    · cases h
  · cases h
theorem ini_ok {P : Program} {K : PySem.W.Frag} {d : IniD} (hb : iniB P K d = true) (hw : iniW K d = d.val) :
    (∃ fd, HInit P K (iniF K d) (He.ga K d.x) "__init__" d.qual d.params d.body d.scope fd ∧ (∀ ps : List Str, (∀ (kV doc pm : Value) (an : Option Addr) (cl : List (Str × Addr)) (cdv ct : Value) (us : List Value), us.length = ps.length → bindArgs (PySem.W.fnX "__init__" d.qual d.params d.body d.scope cl .none kV doc pm an cdv ct) ⟨us, []⟩ = pure (ps.zip us)) → Binds K fd ps [])) ∧
    PySem.W.findIn K (.ref (He.ga K d.x)) "__init__" = some (some (.ref (iniF K d))) ∧ PySem.W.typeIn K (.ref (iniF K d)) = some (.type "function") ∧ PySem.W.nsIn K mainGlobals d.x = some (some (.ref (He.ga K d.x))) ∧ ∀ f ∈ d.flds, PySem.W.findIn K (.ref (He.ga K d.x)) f = some none := by
  unfold iniB at hb
  simp only [Bool.and_eq_true] at hb
  obtain ⟨b0, b1, b2, b3, b4, b5, b6, b7, b8, b9, b10, b11, b12, b13⟩ := hb
  obtain ⟨oc, od, fd, osl, cn, cda, cc, ccl, cl, cdd, cld, ccs, csl, vs, file, tf, ho, h1, h2, h3, hc, hcd, hvs, hfile, hcc⟩ := fnB_ok b2
  unfold iniW at hw
  rw [ho] at hw
  obtain ⟨n1, n2, n3, n4, n5, n6, n7, n8, n9, n10, n11, n12, n13, n14, n15⟩ := fd
  dsimp only at h1 h2 h3
  subst h1 h2 h3
  have e2 : (some (n1, n2, n3, n4, n5, n6, [cn], n15) : FnI) = d.val := hw
  unfold IniD.val at e2
  simp only [Option.some.injEq, Prod.mk.injEq, List.cons.injEq] at e2
  obtain ⟨g1, g2, g3, g4, g5, g6, g7, g8⟩ := e2
  obtain ⟨g7, _⟩ := g7
  subst g1 g2 g3 g4 g5 g6 g7 g8
  refine ⟨⟨_, ⟨⟨clsB_ok b1, He.eqO_ok b3, of_decide_eq_true b4, of_decide_eq_true b5, b6⟩, ⟨oc, od, n12, osl, .none, n9, n10, n11, n14, cda, cc, ccl, cl, cdd, cld, ccs, csl, vs, file, tf, rfl, ho, hc, hcd, hvs, hfile, hcc⟩, of_decide_eq_true b9, of_decide_eq_true b10, of_decide_eq_true b11, He.eqO_ok b12⟩, fun ps h => .all (h _ _ _ _ _ _ _)⟩, He.eqO_ok b7, of_decide_eq_true b8, He.eqO_ok b0, fun f hf => He.eqO_ok (List.all_eq_true.mp b13 f hf)⟩
/-! the Hook -/
abbrev AlE : Type := He.AlD × Bool × List FnI
def asE (g : Addr → Option Obj) (n : Nat) : List Addr := He.asD g n ++ [cStatics]
/-- what a suite wants of the class: its fields are read, its own name catches it -/
def iniX (K : PySem.W.Frag) (d : IniD) : Bool := xfB K (He.ga K d.x) && decide (PySem.W.exmOne K (.ref (He.ga K d.x)) (.ref (He.ga K d.x)) = some true)
def iniB2 (P : Program) (K : PySem.W.Frag) (d : IniD) : Bool := iniB P K d && iniX K d
def obsK (P : Program) (fa : List He.Fa) (fn : List He.DefD) (fi : List IniD) (K : PySem.W.Frag) : AlE := (He.obsD fa fn K, fi.all (iniB2 P K), fi.map (iniW K))
def valE (fn : List He.DefD) (fi : List IniD) : AlE := (He.valD fn, true, fi.map IniD.val)
def obsE (P : Program) (n : Nat) (fa : List He.Fa) (fn : List He.DefD) (fi : List IniD) (g : Addr → Option Obj) : AlE := obsK P fa fn fi (He.frG g (asE g n))
def hookE (P : Program) (n : Nat) (fa : List He.Fa) (fn : List He.DefD) (fi : List IniD) : PySem.W.Hook where
  α := AlE
  obs := fun s => obsE P n fa fn fi s.heap.get?
  val := fun _ => valE fn fi
  says := fun _ h => ∃ K : PySem.W.Frag, K.In h ∧ obsK P fa fn fi K = valE fn fi
  of := fun _ _ e => ⟨_, He.frG_in, e⟩
  keeps := fun _ _ _ ⟨K, hK, c⟩ k => ⟨K, PySem.W.Frag.In.keeps hK k, c⟩
theorem obsE_eq {P : Program} {n : Nat} {fa : List He.Fa} {fn : List He.DefD} {fi : List IniD} {g : Addr → Option Obj} {s : Shared} (h : ∀ a, g a = s.heap.get? a) : obsE P n fa fn fi g = (hookE P n fa fn fi).obs s := by
  have e : g = s.heap.get? := funext h
  rw [e] <;> rfl
theorem saysE {P : Program} {fa : List He.Fa} {fn : List He.DefD} {fi : List IniD} {K : PySem.W.Frag} (c : obsK P fa fn fi K = valE fn fi) : He.SaysD fa fn K ∧ ∀ (i : Nat) (d : IniD), fi[i]? = some d → iniB2 P K d = true ∧ iniW K d = d.val := by
  refine ⟨congrArg (fun z : AlE => z.1) c, fun i d h => ⟨?_, ?_⟩⟩
  · have c1 : fi.all (iniB2 P K) = true := congrArg (fun z : AlE => z.2.1) c
    exact List.all_eq_true.mp c1 d (List.mem_of_getElem? h)
  · have c2 : fi.map (iniW K) = fi.map IniD.val := congrArg (fun z : AlE => z.2.2) c
    have c3 := congrArg (fun l : List FnI => l[i]?) c2
    simp only [List.getElem?_map, h, Option.map_some, Option.some.injEq] at c3
    exact c3
end Mh
namespace Mh
open PySem PySem.Spec PyProof.Rows L2
def top (i : Nat) : Stmt := PySem.Challenge.pw_mendinghalls_k81_untold_refused.main.body.getD i (.Pass ⟨0, 0, 0, 0⟩)
abbrev s_iT : Stmt := inClass (top 8) 0
def iT : IniD := ⟨"InvalidText", defArgs s_iT, defBody s_iT, defScope s_iT, ["text", "at"]⟩
abbrev RW : PySem.W.OpenRow := PySem.W.OpenLaw.row PySem.Challenge.rw_mendinghalls_k81_untold_refused
abbrev PP : Program := PySem.Challenge.rw_mendinghalls_k81_untold_refused.prog
end Mh
namespace Mh
open PySem PySem.Spec PyProof.Rows L2 TL
abbrev FnP (K : PySem.W.Frag) (x q : Str) (st : Stmt) (f : Addr) (fd : FuncData) : Prop := FunD K x q (defArgs st) (defBody st) (defScope st) [] [] f fd

abbrev s_is_figure : Stmt := top 2
abbrev N_is_figure : List Str := ["sign"]
theorem sc_is_figure : FnScope N_is_figure ["sign"] (defScope s_is_figure) := ⟨rfl, rfl, rfl, by decide +kernel, rfl, by decide +kernel, by decide +kernel⟩
abbrev s_figures_end : Stmt := top 3
abbrev N_figures_end : List Str := ["text", "at", "end"]
theorem sc_figures_end : FnScope N_figures_end ["text", "at"] (defScope s_figures_end) := ⟨rfl, rfl, rfl, by decide +kernel, rfl, by decide +kernel, by decide +kernel⟩
abbrev s_are_figures : Stmt := top 4
abbrev N_are_figures : List Str := ["word"]
theorem sc_are_figures : FnScope N_are_figures ["word"] (defScope s_are_figures) := ⟨rfl, rfl, rfl, by decide +kernel, rfl, by decide +kernel, by decide +kernel⟩
abbrev s_number_of : Stmt := top 5
abbrev N_number_of : List Str := ["word", "most"]
theorem sc_number_of : FnScope N_number_of ["word", "most"] (defScope s_number_of) := ⟨rfl, rfl, rfl, by decide +kernel, rfl, by decide +kernel, by decide +kernel⟩
abbrev s_atom_text : Stmt := top 15
abbrev N_atom_text : List Str := ["value"]
theorem sc_atom_text : FnScope N_atom_text ["value"] (defScope s_atom_text) := ⟨rfl, rfl, rfl, by decide +kernel, rfl, by decide +kernel, by decide +kernel⟩
abbrev s_text_of : Stmt := top 16
abbrev N_text_of : List Str := ["value", "pieces", "waiting", "is_value", "one", "member"]
theorem sc_text_of : FnScope N_text_of ["value"] (defScope s_text_of) := ⟨rfl, rfl, rfl, by decide +kernel, rfl, by decide +kernel, by decide +kernel⟩
abbrev s_is_letter : Stmt := top 17
abbrev N_is_letter : List Str := ["sign"]
theorem sc_is_letter : FnScope N_is_letter ["sign"] (defScope s_is_letter) := ⟨rfl, rfl, rfl, by decide +kernel, rfl, by decide +kernel, by decide +kernel⟩
abbrev s_string_at : Stmt := top 18
abbrev N_string_at : List Str := ["text", "at", "end"]
theorem sc_string_at : FnScope N_string_at ["text", "at"] (defScope s_string_at) := ⟨rfl, rfl, rfl, by decide +kernel, rfl, by decide +kernel, by decide +kernel⟩
abbrev s_number_at : Stmt := top 19
abbrev N_number_at : List Str := ["text", "at", "end", "number"]
theorem sc_number_at : FnScope N_number_at ["text", "at"] (defScope s_number_at) := ⟨rfl, rfl, rfl, by decide +kernel, rfl, by decide +kernel, by decide +kernel⟩
abbrev s_atom_at : Stmt := top 20
abbrev N_atom_at : List Str := ["text", "at", "sign"]
theorem sc_atom_at : FnScope N_atom_at ["text", "at"] (defScope s_atom_at) := ⟨rfl, rfl, rfl, by decide +kernel, rfl, by decide +kernel, by decide +kernel⟩
abbrev s_value_of : Stmt := top 21
abbrev N_value_of : List Str := ["text", "rows", "at", "sign", "value"]
theorem sc_value_of : FnScope N_value_of ["text"] (defScope s_value_of) := ⟨rfl, rfl, rfl, by decide +kernel, rfl, by decide +kernel, by decide +kernel⟩
abbrev s_told : Stmt := top 23
abbrev N_told : List Str := ["value"]
theorem sc_told : FnScope N_told ["value"] (defScope s_told) := ⟨rfl, rfl, rfl, by decide +kernel, rfl, by decide +kernel, by decide +kernel⟩
abbrev s_untold : Stmt := top 24
abbrev N_untold : List Str := ["text"]
theorem sc_untold : FnScope N_untold ["text"] (defScope s_untold) := ⟨rfl, rfl, rfl, by decide +kernel, rfl, by decide +kernel, by decide +kernel⟩
abbrev s_law_box : Stmt := top 26
abbrev N_law_box : List Str := ["script", "cells", "great", "cell"]
theorem sc_law_box : FnScope N_law_box ["script"] (defScope s_law_box) := ⟨rfl, rfl, rfl, by decide +kernel, rfl, by decide +kernel, by decide +kernel⟩
abbrev s_law_draw : Stmt := top 27
abbrev N_law_draw : List Str := ["box", "limit", "great", "cell", "mixed", "digit"]
theorem sc_law_draw : FnScope N_law_draw ["box", "limit"] (defScope s_law_draw) := ⟨rfl, rfl, rfl, by decide +kernel, rfl, by decide +kernel, by decide +kernel⟩
abbrev s_law_same : Stmt := top 28
abbrev N_law_same : List Str := ["due", "got"]
theorem sc_law_same : FnScope N_law_same ["due", "got"] (defScope s_law_same) := ⟨rfl, rfl, rfl, by decide +kernel, rfl, by decide +kernel, by decide +kernel⟩
abbrev s_law_reads : Stmt := top 29
abbrev N_law_reads : List Str := ["text", "depth", "at", "ended", "turn", "sign", "end", "word", "one"]
theorem sc_law_reads : FnScope N_law_reads ["text"] (defScope s_law_reads) := ⟨rfl, rfl, rfl, by decide +kernel, rfl, by decide +kernel, by decide +kernel⟩
abbrev s_law_text : Stmt := top 30
abbrev N_law_text : List Str := ["box", "parts", "step", "shape", "many", "inner", "part"]
theorem sc_law_text : FnScope N_law_text ["box"] (defScope s_law_text) := ⟨rfl, rfl, rfl, by decide +kernel, rfl, by decide +kernel, by decide +kernel⟩
abbrev s_law_bent : Stmt := top 31
abbrev N_law_bent : List Str := ["box", "text", "turn", "at", "signs", "sign", "shape"]
theorem sc_law_bent : FnScope N_law_bent ["box", "text"] (defScope s_law_bent) := ⟨rfl, rfl, rfl, by decide +kernel, rfl, by decide +kernel, by decide +kernel⟩
abbrev s_law_right : Stmt := top 32
abbrev N_law_right : List Str := ["text", "value", "e"]
theorem sc_law_right : FnScope N_law_right ["text"] (defScope s_law_right) := ⟨rfl, rfl, rfl, by decide +kernel, rfl, by decide +kernel, by decide +kernel⟩
abbrev s_law_all : Stmt := top 33
abbrev N_law_all : List Str := ["script", "box", "turn", "leaf", "many", "figure", "text"]
theorem sc_law_all : FnScope N_law_all ["script"] (defScope s_law_all) := ⟨rfl, rfl, rfl, by decide +kernel, rfl, by decide +kernel, by decide +kernel⟩
abbrev s_law : Stmt := top 34
abbrev N_law : List Str := ["script"]
theorem sc_law : FnScope N_law ["script"] (defScope s_law) := ⟨rfl, rfl, rfl, by decide +kernel, rfl, by decide +kernel, by decide +kernel⟩
structure Bi (mg : Str → Option Value) : Prop where
  b_abs : mg "abs" = none
  b_bool : mg "bool" = none
  b_int : mg "int" = none
  b_isinstance : mg "isinstance" = none
  b_len : mg "len" = none
  b_list : mg "list" = none
  b_max : mg "max" = none
  b_min : mg "min" = none
  b_range : mg "range" = none
  b_repr : mg "repr" = none
  b_reversed : mg "reversed" = none
  b_str : mg "str" = none
  b_tuple : mg "tuple" = none
  x_HallError : ∃ C, mg "HallError" = some (.ref C)
  c_DEEPEST : ∃ t, mg "DEEPEST" = some (.int 60 t)
  c_FIGURES : ∃ t, mg "FIGURES" = some (.str "0123456789" t)
  c_LETTERS : ∃ t, mg "LETTERS" = some (.str "abcdefghijklmnopqrstuvwxyz" t)
  c_MOST_FIGURES : ∃ t, mg "MOST_FIGURES" = some (.int 40 t)
  c_NOTHING : ∃ t, mg "NOTHING" = some (.str "-" t)
  c_QUOTE : ∃ t, mg "QUOTE" = some (.str "\"" t)
end Mh
namespace Mh
open PySem PySem.Spec PyProof.Rows L2
theorem rz_text {w : World} {K : PySem.W.Frag} {h base : Heap} {mg : Str → Option Value} (X : K.In h) (G : h.Ns mainGlobals mg) (i1 : iniB PP K iT = true) (i2 : iniW K iT = iT.val) (sf : mg "super" = none) :
    Rz PP w K mg base "InvalidText" (He.ga K "InvalidText") ["self", "text", "at"] (spI2 (He.ga K "InvalidText") "text" "at") := by
  obtain ⟨⟨fd, hI, hB⟩, iC, tI, gl, nf⟩ := ini_ok i1 i2
  have n1 : PySem.W.findIn K (.ref (He.ga K "InvalidText")) "text" = some none := nf "text" List.mem_cons_self
  have n2 : PySem.W.findIn K (.ref (He.ga K "InvalidText")) "at" = some none := nf "at" (List.mem_cons_of_mem _ List.mem_cons_self)
  refine ⟨hI.cls, ⟨iniF K iT, fd, iC, tI, ?_, hB _ fun _ _ _ _ _ _ _ us hl => match us, hl with | [_, _, _], _ => rfl⟩, PySem.W.mg_of X G gl⟩
  refine hall_fn (ps := ["self", "text", "at"]) hI sf ⟨_, rfl, rfl⟩ rfl rfl rfl (by decide +kernel) (by decide +kernel) (by decide +kernel) ?_ rfl rfl (by rfl) ?_ ?_ (fun env => rfl) (fun env => rfl) ?_
  · intro x hx
    exact (show ∀ y ∈ iT.scope.names, y.2 = .free → y.1 = "__class__" by decide +kernel) _ (PySem.mem_of_lookup hx) rfl
  · rintro vs H Q E ⟨a, v1, v2, rfl, _⟩
    rfl
  · rintro vs H Q E ⟨a, v1, v2, rfl, ha, _⟩
    exact ⟨a, _, rfl, ha⟩
  · intro env A outer s H vs Q E hsc hh
    cases env
    cases hsc
    exact ⟨_, pss_cons (ps_ost (pv 0) (pv 1)) (pss_one (ps_ost (pv 0) (pv 2))), go_I2 rfl hI.cls n1 n2 hh⟩
end Mh
namespace Mh
open PySem PySem.Spec PyProof.Rows L2 TL
theorem spB_len {K : PySem.W.Frag} {A : Addr → At} {vs : List V} {H : Hp} {Q : VK} {E : XK} {n : Nat} (hA : ∀ b ks S Z, A b ks S Z → ks.length = n) (h : spB K A vs H Q E) : vs.length = n := by
  obtain ⟨b, g, c, h⟩ := h
  exact sp_len (hA b) h
section
variable {K : PySem.W.Frag} {vs : List V} {H : Hp} {Q : VK} {E : XK}
theorem go_law_draw (h : sp_law_draw K vs H Q E) : t_draw K { nx := fun _ H' => Q .non H', rt := Q } (L2.start ["box", "limit", "great", "cell", "mixed", "digit"] vs) H := go_draw h
theorem go_law_box (h : sp_law_box K vs H Q E) : t_box K { nx := fun _ H' => Q .non H', rt := Q } (L2.start ["script", "cells", "great", "cell"] vs) H := go_box h
end
theorem len_is_figure {K : PySem.W.Frag} : ∀ vs H Q E, sp_is_figure K vs H Q E → vs.length = 1 := fun _ _ _ _ h => sp_len (fun ks S Z a => by first | (obtain ⟨_, rfl, _⟩ := a; rfl) | (obtain ⟨_, _, rfl, _⟩ := a; rfl) | (obtain ⟨_, _, _, rfl, _⟩ := a; rfl) | (obtain ⟨_, _, _, _, rfl, _⟩ := a; rfl)) h
theorem len_figures_end {K : PySem.W.Frag} : ∀ vs H Q E, sp_figures_end K vs H Q E → vs.length = 2 := fun _ _ _ _ h => sp_len (fun ks S Z a => by first | (obtain ⟨_, rfl, _⟩ := a; rfl) | (obtain ⟨_, _, rfl, _⟩ := a; rfl) | (obtain ⟨_, _, _, rfl, _⟩ := a; rfl) | (obtain ⟨_, _, _, _, rfl, _⟩ := a; rfl)) h
theorem len_are_figures {K : PySem.W.Frag} : ∀ vs H Q E, sp_are_figures K vs H Q E → vs.length = 1 := fun _ _ _ _ h => sp_len (fun ks S Z a => by first | (obtain ⟨_, rfl, _⟩ := a; rfl) | (obtain ⟨_, _, rfl, _⟩ := a; rfl) | (obtain ⟨_, _, _, rfl, _⟩ := a; rfl) | (obtain ⟨_, _, _, _, rfl, _⟩ := a; rfl)) h
theorem len_number_of {K : PySem.W.Frag} : ∀ vs H Q E, sp_number_of K vs H Q E → vs.length = 2 := fun _ _ _ _ h => sp_len (fun ks S Z a => by first | (obtain ⟨_, rfl, _⟩ := a; rfl) | (obtain ⟨_, _, rfl, _⟩ := a; rfl) | (obtain ⟨_, _, _, rfl, _⟩ := a; rfl) | (obtain ⟨_, _, _, _, rfl, _⟩ := a; rfl)) h
theorem len_atom_text {K : PySem.W.Frag} : ∀ vs H Q E, sp_atom_text K vs H Q E → vs.length = 1 := fun _ _ _ _ h => sp_len (fun ks S Z a => by first | (obtain ⟨_, rfl, _⟩ := a; rfl) | (obtain ⟨_, _, rfl, _⟩ := a; rfl) | (obtain ⟨_, _, _, rfl, _⟩ := a; rfl) | (obtain ⟨_, _, _, _, rfl, _⟩ := a; rfl)) h
theorem len_text_of {K : PySem.W.Frag} : ∀ vs H Q E, sp_text_of K vs H Q E → vs.length = 1 := fun _ _ _ _ h => sp_len (fun ks S Z a => by first | (obtain ⟨_, rfl, _⟩ := a; rfl) | (obtain ⟨_, _, rfl, _⟩ := a; rfl) | (obtain ⟨_, _, _, rfl, _⟩ := a; rfl) | (obtain ⟨_, _, _, _, rfl, _⟩ := a; rfl)) h
theorem len_is_letter {K : PySem.W.Frag} : ∀ vs H Q E, sp_is_letter K vs H Q E → vs.length = 1 := fun _ _ _ _ h => sp_len (fun ks S Z a => by first | (obtain ⟨_, rfl, _⟩ := a; rfl) | (obtain ⟨_, _, rfl, _⟩ := a; rfl) | (obtain ⟨_, _, _, rfl, _⟩ := a; rfl) | (obtain ⟨_, _, _, _, rfl, _⟩ := a; rfl)) h
theorem len_string_atX {K : PySem.W.Frag} {D : Addr} : ∀ vs H Q E, sp_string_atX K D vs H Q E → vs.length = 2 := fun _ _ _ _ h => sp_len (fun ks S Z a => by first | (obtain ⟨_, rfl, _⟩ := a; rfl) | (obtain ⟨_, _, rfl, _⟩ := a; rfl) | (obtain ⟨_, _, _, rfl, _⟩ := a; rfl) | (obtain ⟨_, _, _, _, rfl, _⟩ := a; rfl)) h
theorem len_number_atX {K : PySem.W.Frag} {D : Addr} : ∀ vs H Q E, sp_number_atX K D vs H Q E → vs.length = 2 := fun _ _ _ _ h => sp_len (fun ks S Z a => by first | (obtain ⟨_, rfl, _⟩ := a; rfl) | (obtain ⟨_, _, rfl, _⟩ := a; rfl) | (obtain ⟨_, _, _, rfl, _⟩ := a; rfl) | (obtain ⟨_, _, _, _, rfl, _⟩ := a; rfl)) h
theorem len_atom_atX {K : PySem.W.Frag} {D : Addr} : ∀ vs H Q E, sp_atom_atX K D vs H Q E → vs.length = 2 := fun _ _ _ _ h => sp_len (fun ks S Z a => by first | (obtain ⟨_, rfl, _⟩ := a; rfl) | (obtain ⟨_, _, rfl, _⟩ := a; rfl) | (obtain ⟨_, _, _, rfl, _⟩ := a; rfl) | (obtain ⟨_, _, _, _, rfl, _⟩ := a; rfl)) h
theorem len_value_ofX {K : PySem.W.Frag} {D : Addr} : ∀ vs H Q E, sp_value_ofX K D vs H Q E → vs.length = 1 := fun _ _ _ _ h => sp_len (fun ks S Z a => by first | (obtain ⟨_, rfl, _⟩ := a; rfl) | (obtain ⟨_, _, rfl, _⟩ := a; rfl) | (obtain ⟨_, _, _, rfl, _⟩ := a; rfl) | (obtain ⟨_, _, _, _, rfl, _⟩ := a; rfl)) h
theorem len_told {K : PySem.W.Frag} : ∀ vs H Q E, sp_told K vs H Q E → vs.length = 1 := fun _ _ _ _ h => sp_len (fun ks S Z a => by first | (obtain ⟨_, rfl, _⟩ := a; rfl) | (obtain ⟨_, _, rfl, _⟩ := a; rfl) | (obtain ⟨_, _, _, rfl, _⟩ := a; rfl) | (obtain ⟨_, _, _, _, rfl, _⟩ := a; rfl)) h
theorem len_untoldX {K : PySem.W.Frag} {D : Addr} : ∀ vs H Q E, sp_untoldX K D vs H Q E → vs.length = 1 := fun _ _ _ _ h => sp_len (fun ks S Z a => by first | (obtain ⟨_, rfl, _⟩ := a; rfl) | (obtain ⟨_, _, rfl, _⟩ := a; rfl) | (obtain ⟨_, _, _, rfl, _⟩ := a; rfl) | (obtain ⟨_, _, _, _, rfl, _⟩ := a; rfl)) h
theorem len_law_box {K : PySem.W.Frag} : ∀ vs H Q E, sp_law_box K vs H Q E → vs.length = 1 := fun _ _ _ _ h => by obtain ⟨l, ns, rfl, _⟩ := h; rfl
theorem len_law_draw {K : PySem.W.Frag} : ∀ vs H Q E, sp_law_draw K vs H Q E → vs.length = 2 := fun _ _ _ _ h => spB_len (fun b ks S Z a => by obtain ⟨_, _, _, rfl, _, _⟩ := a; rfl) h
theorem len_law_same {K : PySem.W.Frag} : ∀ vs H Q E, sp_law_same K vs H Q E → vs.length = 2 := fun _ _ _ _ h => sp_len (fun ks S Z a => by first | (obtain ⟨_, rfl, _⟩ := a; rfl) | (obtain ⟨_, _, rfl, _⟩ := a; rfl) | (obtain ⟨_, _, _, rfl, _⟩ := a; rfl) | (obtain ⟨_, _, _, _, rfl, _⟩ := a; rfl)) h
theorem len_law_reads {K : PySem.W.Frag} : ∀ vs H Q E, sp_law_reads K vs H Q E → vs.length = 1 := fun _ _ _ _ h => sp_len (fun ks S Z a => by first | (obtain ⟨_, rfl, _⟩ := a; rfl) | (obtain ⟨_, _, rfl, _⟩ := a; rfl) | (obtain ⟨_, _, _, rfl, _⟩ := a; rfl) | (obtain ⟨_, _, _, _, rfl, _⟩ := a; rfl)) h
theorem len_law_text {K : PySem.W.Frag} : ∀ vs H Q E, sp_law_text K vs H Q E → vs.length = 1 := fun _ _ _ _ h => spB_len (fun b ks S Z a => by obtain ⟨rfl, _, _⟩ := a; rfl) h
theorem len_law_bent {K : PySem.W.Frag} : ∀ vs H Q E, sp_law_bent K vs H Q E → vs.length = 2 := fun _ _ _ _ h => spB_len (fun b ks S Z a => by obtain ⟨_, rfl, _⟩ := a; rfl) h
theorem len_law_right {K : PySem.W.Frag} : ∀ vs H Q E, sp_law_right K vs H Q E → vs.length = 1 := fun _ _ _ _ h => sp_len (fun ks S Z a => by first | (obtain ⟨_, rfl, _⟩ := a; rfl) | (obtain ⟨_, _, rfl, _⟩ := a; rfl) | (obtain ⟨_, _, _, rfl, _⟩ := a; rfl) | (obtain ⟨_, _, _, _, rfl, _⟩ := a; rfl)) h
theorem len_law_all {K : PySem.W.Frag} : ∀ vs H Q E, sp_law_all K vs H Q E → vs.length = 1 := fun _ _ _ _ h => by obtain ⟨l, ns, rfl, _⟩ := h; rfl
theorem len_law {K : PySem.W.Frag} : ∀ vs H Q E, sp_law K vs H Q E → vs.length = 1 := fun _ _ _ _ h => by obtain ⟨l, ns, rfl, _⟩ := h; rfl
section
variable {P : Program} {w : World} {K : PySem.W.Frag} {mg : Str → Option Value} {base : Heap} {f D : Addr} {fd : FuncData}
set_option maxRecDepth 100000 in
theorem ok_is_figure (F : FnP K "is_figure" "is_figure" s_is_figure f fd) (gm : mg "is_figure" = some (.ref f)) (B : Bi mg)  : Cl P w K mg base (L2N.CX P w) false "is_figure" 1 ["sign"] (sp_is_figure K) := by
  refine cl_of F gm sc_is_figure len_is_figure (fun _ _ _ _ _ _ us hl => match us, hl with | [_], _ => rfl) (fun cdv A outer s H vs Q E hr hg h => ⟨t_is_figure K, PSs.nox ?_, go_is_figure h⟩)
  have nd := sc_is_figure.nd
  have hu2 := hr.units
  have hu3 := hu65 hr
  exact (pss_one (ps_ret (pe_and (pe_cmpR (op_neP hu2) (pv 0) pe_str (nomark _)) (pe_one (pe_cmpR op_inS (pv 0) (pe_cstS rfl (B.c_FIGURES)) rfl)))))
set_option maxRecDepth 100000 in
theorem ok_figures_end (F : FnP K "figures_end" "figures_end" s_figures_end f fd) (gm : mg "figures_end" = some (.ref f)) (B : Bi mg) (C_is_figure : Cl P w K mg base (L2N.CX P w) false "is_figure" 1 ["sign"] (sp_is_figure K)) : Cl P w K mg base (L2N.CX P w) false "figures_end" 2 ["text", "at"] (sp_figures_end K) := by
  refine cl_of F gm sc_figures_end len_figures_end (fun _ _ _ _ _ _ us hl => match us, hl with | [_, _], _ => rfl) (fun cdv A outer s H vs Q E hr hg h => ⟨t_figures_end K, PSs.nox ?_, go_figures_end h⟩)
  have nd := sc_figures_end.nd
  have hu2 := hr.units
  have hu3 := hu65 hr
  exact (pss_cons (ps_set (i := 2) nd rfl (Or.inl rfl) (pv 1))
    (pss_cons (ps_while PassesOwn.never (pt_truth (pe_cl C_is_figure (hr.mono (by decide)) (fun z => Bool.noConfusion z) passF rfl (pa_cons (pe_slice sl_P (pv 0) (po_some (pv 2)) (po_some (pe_op op_addP (pv 2) pe_int))) pa_nil)) (by intro _; rfl)) (pss_one (ps_aug (i := 2) nd rfl (Or.inl rfl) pe_int ip_add)))
    (pss_one (ps_ret (pv 2)))))
set_option maxRecDepth 100000 in
theorem ok_are_figures (F : FnP K "are_figures" "are_figures" s_are_figures f fd) (gm : mg "are_figures" = some (.ref f)) (B : Bi mg) (C_figures_end : Cl P w K mg base (L2N.CX P w) false "figures_end" 2 ["text", "at"] (sp_figures_end K)) : Cl P w K mg base (L2N.CX P w) false "are_figures" 3 ["word"] (sp_are_figures K) := by
  refine cl_of F gm sc_are_figures len_are_figures (fun _ _ _ _ _ _ us hl => match us, hl with | [_], _ => rfl) (fun cdv A outer s H vs Q E hr hg h => ⟨t_are_figures K, PSs.nox ?_, go_are_figures h⟩)
  have nd := sc_are_figures.nd
  have hu2 := hr.units
  have hu3 := hu65 hr
  exact (pss_cons (ps_if (PW.pt (pw_or (pt_cmpR (op_eqP hu2) (pv 0) pe_str (nomark _)) (pw_or1 (pt_cmpR (op_neP hu2) (pe_cl C_figures_end (hr.mono (by decide)) (fun z => Bool.noConfusion z) passF rfl (pa_cons (pv 0) (pa_cons pe_int pa_nil))) (pe_callB call_lenP rfl B.b_len (by decide +kernel) (pa_cons (pv 0) pa_nil)) (nomark _))))) (pss_one (ps_ret pe_bl)) pss_nil)
    (pss_one (ps_ret (pe_or (pe_cmpR (op_eqP hu2) (pv 0) pe_str (nomark _)) (pe_one (pe_cmpR (op_neP hu2) (pe_ix ix_seq (pv 0) pe_int (fun _ _ => rfl)) pe_str (nomark _)))))))
set_option maxRecDepth 100000 in
theorem ok_number_of (F : FnP K "number_of" "number_of" s_number_of f fd) (gm : mg "number_of" = some (.ref f)) (B : Bi mg) (C_are_figures : Cl P w K mg base (L2N.CX P w) false "are_figures" 3 ["word"] (sp_are_figures K)) : Cl P w K mg base (L2N.CX P w) false "number_of" 4 ["word", "most"] (sp_number_of K) := by
  refine cl_of F gm sc_number_of len_number_of (fun _ _ _ _ _ _ us hl => match us, hl with | [_, _], _ => rfl) (fun cdv A outer s H vs Q E hr hg h => ⟨t_number_of K, PSs.nox ?_, go_number_of h⟩)
  have nd := sc_number_of.nd
  have hu2 := hr.units
  have hu3 := hu65 hr
  exact (pss_cons (ps_if (PW.pt (pw_or (pt_cmpR op_gt (pe_callB call_lenP rfl B.b_len (by decide +kernel) (pa_cons (pv 0) pa_nil)) (pv 1) (nomark _)) (pw_or1 (pt_not (pt_truth (pe_cl C_are_figures (hr.mono (by decide)) (fun z => Bool.noConfusion z) passF rfl (pa_cons (pv 0) pa_nil)) (by intro _; rfl)))))) (pss_one (ps_ret pe_non)) pss_nil)
    (pss_one (ps_ret (pe_callTy call_intP rfl B.b_int (by decide +kernel) (pa_cons (pv 0) pa_nil)))))
set_option maxRecDepth 100000 in
theorem ok_atom_text (F : FnP K "atom_text" "atom_text" s_atom_text f fd) (gm : mg "atom_text" = some (.ref f)) (B : Bi mg)  : Cl P w K mg base (L2N.CX P w) false "atom_text" 1 ["value"] (sp_atom_text K) := by
  refine cl_of F gm sc_atom_text len_atom_text (fun _ _ _ _ _ _ us hl => match us, hl with | [_], _ => rfl) (fun cdv A outer s H vs Q E hr hg h => ⟨t_atom_text K, PSs.nox ?_, go_atom_text h⟩)
  have nd := sc_atom_text.nd
  have hu2 := hr.units
  have hu3 := hu65 hr
  exact (pss_cons (ps_if (pt_cmpR op_isN1 (pv 0) pe_non (nomark _)) (pss_one (ps_ret (pe_cstS rfl (B.c_NOTHING)))) pss_nil)
    (pss_cons (ps_if (pt_truth (pe_callB call_isi rfl B.b_isinstance (by decide +kernel) (pa_cons (pv 0) (pa_cons (pe_bltn (v := .ty "str") (u := .type "str") rfl B.b_str (by decide +kernel) rfl) pa_nil))) (by intro _; rfl)) (pss_one (ps_ret (pe_op op_addP (pe_op op_addP (pe_cstS rfl (B.c_QUOTE)) (pv 0)) (pe_cstS rfl (B.c_QUOTE))))) pss_nil)
    (pss_one (ps_ret (pe_callTy call_strP rfl B.b_str (by decide +kernel) (pa_cons (pv 0) pa_nil))))))
set_option maxRecDepth 100000 in
theorem ok_text_of (F : FnP K "text_of" "text_of" s_text_of f fd) (gm : mg "text_of" = some (.ref f)) (B : Bi mg) (C_atom_text : Cl P w K mg base (L2N.CX P w) false "atom_text" 1 ["value"] (sp_atom_text K)) : Cl P w K mg base (L2N.CX P w) false "text_of" 2 ["value"] (sp_text_of K) := by
  refine cl_of F gm sc_text_of len_text_of (fun _ _ _ _ _ _ us hl => match us, hl with | [_], _ => rfl) (fun cdv A outer s H vs Q E hr hg h => ⟨t_text_of K, PSs.nox ?_, go_text_of h⟩)
  have nd := sc_text_of.nd
  have hu2 := hr.units
  have hu3 := hu65 hr
  exact (pss_cons (ps_set (i := 1) nd rfl (Or.inl rfl) (pe_lst pa_nil))
    (pss_cons (ps_set (i := 2) nd rfl (Or.inl rfl) (pe_lst (pa_cons (pe_tup (pa_cons pe_bl (pa_cons (pv 0) pa_nil))) pa_nil)))
    (pss_cons (ps_while PassesOwn.never (pt_truth (pv 2) (by intro _; rfl)) (pss_cons (ps_asg (pe_bm0 PySem.F.plainAttrs_list PySem.F.slot_list_pop PySem.F.type_list_pop mt_pop (pv 2)) (pg_tup rfl (pgs_cons (pg_name (i := 3) nd rfl (Or.inl rfl)) (pgs_cons (pg_name (i := 4) nd rfl (Or.inl rfl)) pgs_nil))))
    (pss_one (ps_if (pt_not (pt_truth (pv 3) (by intro _; rfl))) (pss_one (ps_expr (pe_bm PySem.F.plainAttrs_list PySem.F.slot_list_append PySem.F.type_list_append mt_append (pv 1) (pa_cons (pv 4) pa_nil)))) (pss_one (ps_if (pt_truth (pe_callB call_isi rfl B.b_isinstance (by decide +kernel) (pa_cons (pv 4) (pa_cons (pe_bltn (v := .ty "tuple") (u := .type "tuple") rfl B.b_tuple (by decide +kernel) rfl) pa_nil))) (by intro _; rfl)) (pss_cons (ps_expr (pe_bm PySem.F.plainAttrs_list PySem.F.slot_list_append PySem.F.type_list_append mt_append (pv 1) (pa_cons pe_str pa_nil)))
    (pss_cons (ps_expr (pe_bm PySem.F.plainAttrs_list PySem.F.slot_list_append PySem.F.type_list_append mt_append (pv 2) (pa_cons (pe_tup (pa_cons pe_bl (pa_cons pe_str pa_nil))) pa_nil)))
    (pss_one (ps_for PassesOwn.never rfl (RT.pi_revA rfl B.b_reversed (pv 4)) (pg_name (i := 5) nd rfl (Or.inl rfl)) (pss_cons (ps_expr (pe_bm PySem.F.plainAttrs_list PySem.F.slot_list_append PySem.F.type_list_append mt_append (pv 2) (pa_cons (pe_tup (pa_cons pe_bl (pa_cons pe_str pa_nil))) pa_nil)))
    (pss_one (ps_expr (pe_bm PySem.F.plainAttrs_list PySem.F.slot_list_append PySem.F.type_list_append mt_append (pv 2) (pa_cons (pe_tup (pa_cons pe_bl (pa_cons (pv 5) pa_nil))) pa_nil))))))))) (pss_one (ps_expr (pe_bm PySem.F.plainAttrs_list PySem.F.slot_list_append PySem.F.type_list_append mt_append (pv 1) (pa_cons (pe_cl C_atom_text (hr.mono (by decide)) (fun z => Bool.noConfusion z) passF rfl (pa_cons (pv 4) pa_nil)) pa_nil))))))))))
    (pss_one (ps_ret (pe_m1 PySem.F.slot_str_join PySem.F.type_str_join mt_joinP pe_str (pv 1)))))))
set_option maxRecDepth 100000 in
theorem ok_is_letter (F : FnP K "is_letter" "is_letter" s_is_letter f fd) (gm : mg "is_letter" = some (.ref f)) (B : Bi mg)  : Cl P w K mg base (L2N.CX P w) false "is_letter" 1 ["sign"] (sp_is_letter K) := by
  refine cl_of F gm sc_is_letter len_is_letter (fun _ _ _ _ _ _ us hl => match us, hl with | [_], _ => rfl) (fun cdv A outer s H vs Q E hr hg h => ⟨t_is_letter K, PSs.nox ?_, go_is_letter h⟩)
  have nd := sc_is_letter.nd
  have hu2 := hr.units
  have hu3 := hu65 hr
  exact (pss_one (ps_ret (pe_and (pe_cmpR (op_neP hu2) (pv 0) pe_str (nomark _)) (pe_one (pe_cmpR op_inS (pv 0) (pe_cstS rfl (B.c_LETTERS)) rfl)))))
set_option maxRecDepth 100000 in
theorem ok_string_at (F : FnP K "string_at" "string_at" s_string_at f fd) (gm : mg "string_at" = some (.ref f)) (B : Bi mg) (C_is_letter : Cl P w K mg base (L2N.CX P w) false "is_letter" 1 ["sign"] (sp_is_letter K)) (R : Rz P w K mg base "InvalidText" D ["self", "text", "at"] (spI2 D "text" "at")) : Cl P w K mg base (L2N.CX P w) false "string_at" 3 ["text", "at"] (sp_string_atX K D) := by
  refine cl_of F gm sc_string_at len_string_atX (fun _ _ _ _ _ _ us hl => match us, hl with | [_, _], _ => rfl) (fun cdv A outer s H vs Q E hr hg h => ⟨t_string_atX K D E, ?_, go_string_atX h⟩)
  have tk := L2N.takes_of (X := cxOf (L2N.CX P w) P w K mg base N_string_at "string_at" (defScope s_string_at) f cdv A outer s H E) (E := E) rfl rfl rfl rfl
  have nd := sc_string_at.nd
  have hu2 := hr.units
  have hu3 := hu65 hr
  exact (pss_cons (ps_set (i := 2) nd rfl (Or.inl rfl) (pv 1))
    (pss_cons (ps_while PassesOwn.leaving (pt_truth (pe_cl C_is_letter (hr.mono (by decide)) (fun z => Bool.noConfusion z) passF rfl (pa_cons (pe_slice sl_P (pv 0) (po_some (pv 2)) (po_some (pe_op op_addP (pv 2) pe_int))) pa_nil)) (by intro _; rfl)) (pss_one (ps_aug (i := 2) nd rfl (Or.inl rfl) pe_int ip_add)))
    (pss_cons (ps_if (pt_cmpR (op_neP hu2) (pe_slice sl_P (pv 0) (po_some (pv 2)) (po_some (pe_op op_addP (pv 2) pe_int))) (pe_cstS rfl (B.c_QUOTE)) (nomark _)) (pss_one (ps_rz R (hr.mono (by decide)) rfl tk rfl (pa_cons (pv 0) (pa_cons (pv 2) pa_nil)))) pss_nil)
    (pss_one (ps_ret (pe_tup (pa_cons (pe_slice sl_P (pv 0) (po_some (pv 1)) (po_some (pv 2))) (pa_cons (pe_op op_addP (pv 2) pe_int) pa_nil))))))))
set_option maxRecDepth 100000 in
theorem ok_number_at (F : FnP K "number_at" "number_at" s_number_at f fd) (gm : mg "number_at" = some (.ref f)) (B : Bi mg) (C_figures_end : Cl P w K mg base (L2N.CX P w) false "figures_end" 2 ["text", "at"] (sp_figures_end K)) (C_number_of : Cl P w K mg base (L2N.CX P w) false "number_of" 4 ["word", "most"] (sp_number_of K)) (R : Rz P w K mg base "InvalidText" D ["self", "text", "at"] (spI2 D "text" "at")) : Cl P w K mg base (L2N.CX P w) false "number_at" 5 ["text", "at"] (sp_number_atX K D) := by
  refine cl_of F gm sc_number_at len_number_atX (fun _ _ _ _ _ _ us hl => match us, hl with | [_, _], _ => rfl) (fun cdv A outer s H vs Q E hr hg h => ⟨t_number_atX K D E, ?_, go_number_atX h⟩)
  have tk := L2N.takes_of (X := cxOf (L2N.CX P w) P w K mg base N_number_at "number_at" (defScope s_number_at) f cdv A outer s H E) (E := E) rfl rfl rfl rfl
  have nd := sc_number_at.nd
  have hu2 := hr.units
  have hu3 := hu65 hr
  exact (pss_cons (ps_set (i := 2) nd rfl (Or.inl rfl) (pe_cl C_figures_end (hr.mono (by decide)) (fun z => Bool.noConfusion z) passF rfl (pa_cons (pv 0) (pa_cons (pv 1) pa_nil))))
    (pss_cons (ps_set (i := 3) nd rfl (Or.inl rfl) (pe_cl C_number_of (hr.mono (by decide)) (fun z => Bool.noConfusion z) passF rfl (pa_cons (pe_slice sl_P (pv 0) (po_some (pv 1)) (po_some (pv 2))) (pa_cons (pe_cstI rfl (B.c_MOST_FIGURES)) pa_nil))))
    (pss_cons (ps_if (pt_cmpR op_isN1 (pv 3) pe_non (nomark _)) (pss_one (ps_rz R (hr.mono (by decide)) rfl tk rfl (pa_cons (pv 0) (pa_cons (pv 1) pa_nil)))) pss_nil)
    (pss_one (ps_ret (pe_tup (pa_cons (pv 3) (pa_cons (pv 2) pa_nil))))))))
set_option maxRecDepth 100000 in
theorem ok_atom_at (F : FnP K "atom_at" "atom_at" s_atom_at f fd) (gm : mg "atom_at" = some (.ref f)) (B : Bi mg) (C_is_figure : Cl P w K mg base (L2N.CX P w) false "is_figure" 1 ["sign"] (sp_is_figure K)) (C_number_at : Cl P w K mg base (L2N.CX P w) false "number_at" 5 ["text", "at"] (sp_number_atX K D)) (C_string_at : Cl P w K mg base (L2N.CX P w) false "string_at" 3 ["text", "at"] (sp_string_atX K D)) (R : Rz P w K mg base "InvalidText" D ["self", "text", "at"] (spI2 D "text" "at")) : Cl P w K mg base (L2N.CX P w) false "atom_at" 6 ["text", "at"] (sp_atom_atX K D) := by
  refine cl_of F gm sc_atom_at len_atom_atX (fun _ _ _ _ _ _ us hl => match us, hl with | [_, _], _ => rfl) (fun cdv A outer s H vs Q E hr hg h => ⟨t_atom_atX K D E, ?_, go_atom_atX h⟩)
  have tk := L2N.takes_of (X := cxOf (L2N.CX P w) P w K mg base N_atom_at "atom_at" (defScope s_atom_at) f cdv A outer s H E) (E := E) rfl rfl rfl rfl
  have nd := sc_atom_at.nd
  have hu2 := hr.units
  have hu3 := hu65 hr
  exact (pss_cons (ps_set (i := 2) nd rfl (Or.inl rfl) (pe_slice sl_P (pv 0) (po_some (pv 1)) (po_some (pe_op op_addP (pv 1) pe_int))))
    (pss_cons (ps_if (pt_cmpR (op_eqP hu2) (pv 2) (pe_cstS rfl (B.c_NOTHING)) (nomark _)) (pss_one (ps_ret (pe_tup (pa_cons pe_non (pa_cons (pe_op op_addP (pv 1) pe_int) pa_nil))))) pss_nil)
    (pss_cons (ps_if (pt_cmpR (op_eqP hu2) (pv 2) (pe_cstS rfl (B.c_QUOTE)) (nomark _)) (pss_one (ps_ret (pe_cl C_string_at (hr.mono (by decide)) (fun z => Bool.noConfusion z) (L2N.passes_call tk fun _ _ _ _ h => h) rfl (pa_cons (pv 0) (pa_cons (pe_op op_addP (pv 1) pe_int) pa_nil))))) pss_nil)
    (pss_cons (ps_if (pt_truth (pe_cl C_is_figure (hr.mono (by decide)) (fun z => Bool.noConfusion z) passF rfl (pa_cons (pv 2) pa_nil)) (by intro _; rfl)) (pss_one (ps_ret (pe_cl C_number_at (hr.mono (by decide)) (fun z => Bool.noConfusion z) (L2N.passes_call tk fun _ _ _ _ h => h) rfl (pa_cons (pv 0) (pa_cons (pv 1) pa_nil))))) pss_nil)
    (pss_one (ps_rz R (hr.mono (by decide)) rfl tk rfl (pa_cons (pv 0) (pa_cons (pv 1) pa_nil))))))))
set_option maxRecDepth 100000 in
theorem ok_value_of (F : FnP K "value_of" "value_of" s_value_of f fd) (gm : mg "value_of" = some (.ref f)) (B : Bi mg) (C_atom_at : Cl P w K mg base (L2N.CX P w) false "atom_at" 6 ["text", "at"] (sp_atom_atX K D)) (R : Rz P w K mg base "InvalidText" D ["self", "text", "at"] (spI2 D "text" "at")) : Cl P w K mg base (L2N.CX P w) false "value_of" 7 ["text"] (sp_value_ofX K D) := by
  refine cl_of F gm sc_value_of len_value_ofX (fun _ _ _ _ _ _ us hl => match us, hl with | [_], _ => rfl) (fun cdv A outer s H vs Q E hr hg h => ⟨t_value_ofX K D E, ?_, go_value_ofX h⟩)
  have tk := L2N.takes_of (X := cxOf (L2N.CX P w) P w K mg base N_value_of "value_of" (defScope s_value_of) f cdv A outer s H E) (E := E) rfl rfl rfl rfl
  have nd := sc_value_of.nd
  have hu2 := hr.units
  have hu3 := hu65 hr
  exact (pss_cons (ps_set (i := 1) nd rfl (Or.inl rfl) (pe_lst pa_nil))
    (pss_cons (ps_set (i := 2) nd rfl (Or.inl rfl) pe_int)
    (pss_cons (ps_while PassesOwn.leaving (pt_val pe_bl) (pss_cons (ps_set (i := 3) nd rfl (Or.inl rfl) (pe_slice sl_P (pv 0) (po_some (pv 2)) (po_some (pe_op op_addP (pv 2) pe_int))))
    (pss_cons (ps_if (pt_cmpR (op_eqP hu2) (pv 3) pe_str (nomark _)) (pss_cons (ps_if (pt_cmpR (op_eqP hu2) (pe_callB call_lenP rfl B.b_len (by decide +kernel) (pa_cons (pv 1) pa_nil)) (pe_cstI rfl (B.c_DEEPEST)) (nomark _)) (pss_one (ps_rz R (hr.mono (by decide)) rfl tk rfl (pa_cons (pv 0) (pa_cons (pv 2) pa_nil)))) pss_nil)
    (pss_cons (ps_expr (pe_bm PySem.F.plainAttrs_list PySem.F.slot_list_append PySem.F.type_list_append mt_append (pv 1) (pa_cons (pe_lst pa_nil) pa_nil)))
    (pss_cons (ps_aug (i := 2) nd rfl (Or.inl rfl) pe_int ip_add)
    (pss_one ps_continue)))) pss_nil)
    (pss_cons (ps_if (PW.pt (pw_and (pt_cmpR (op_eqP hu2) (pv 3) pe_str (nomark _)) (pw_and1 (pt_truth (pv 1) (by intro _; rfl))))) (pss_cons (ps_set (i := 4) nd rfl (Or.inl rfl) (pe_callTy call_tupP rfl B.b_tuple (by decide +kernel) (pa_cons (pe_bm0 PySem.F.plainAttrs_list PySem.F.slot_list_pop PySem.F.type_list_pop mt_pop (pv 1)) pa_nil)))
    (pss_one (ps_aug (i := 2) nd rfl (Or.inl rfl) pe_int ip_add))) (pss_one (ps_asg (pe_cl C_atom_at (hr.mono (by decide)) (fun z => Bool.noConfusion z) (L2N.passes_call tk fun _ _ _ _ h => h) rfl (pa_cons (pv 0) (pa_cons (pv 2) pa_nil))) (pg_tup rfl (pgs_cons (pg_name (i := 4) nd rfl (Or.inl rfl)) (pgs_cons (pg_name (i := 2) nd rfl (Or.inl rfl)) pgs_nil))))))
    (pss_cons (ps_if (pt_not (pt_truth (pv 1) (by intro _; rfl))) (pss_one ps_break) pss_nil)
    (pss_cons (ps_if (pt_cmpR (op_neP hu2) (pe_slice sl_P (pv 0) (po_some (pv 2)) (po_some (pe_op op_addP (pv 2) pe_int))) pe_str (nomark _)) (pss_one (ps_rz R (hr.mono (by decide)) rfl tk rfl (pa_cons (pv 0) (pa_cons (pv 2) pa_nil)))) pss_nil)
    (pss_cons (ps_expr (pe_bm PySem.F.plainAttrs_list PySem.F.slot_list_append PySem.F.type_list_append mt_append (pe_ix ix_seq (pv 1) (pe_un un_neg pe_int) (fun _ _ => rfl)) (pa_cons (pv 4) pa_nil)))
    (pss_one (ps_aug (i := 2) nd rfl (Or.inl rfl) pe_int ip_add)))))))))
    (pss_cons (ps_if (pt_cmpR (op_neP hu2) (pv 2) (pe_callB call_lenP rfl B.b_len (by decide +kernel) (pa_cons (pv 0) pa_nil)) (nomark _)) (pss_one (ps_rz R (hr.mono (by decide)) rfl tk rfl (pa_cons (pv 0) (pa_cons (pv 2) pa_nil)))) pss_nil)
    (pss_one (ps_ret (pv 4)))))))
set_option maxRecDepth 100000 in
theorem ok_told (F : FnP K "told" "told" s_told f fd) (gm : mg "told" = some (.ref f)) (B : Bi mg) (C_text_of : Cl P w K mg base (L2N.CX P w) false "text_of" 2 ["value"] (sp_text_of K)) : Cl P w K mg base (L2N.CX P w) false "told" 3 ["value"] (sp_told K) := by
  refine cl_of F gm sc_told len_told (fun _ _ _ _ _ _ us hl => match us, hl with | [_], _ => rfl) (fun cdv A outer s H vs Q E hr hg h => ⟨t_told K, PSs.nox ?_, go_told h⟩)
  have nd := sc_told.nd
  have hu2 := hr.units
  have hu3 := hu65 hr
  exact (pss_one (ps_ret (pe_cl C_text_of (hr.mono (by decide)) (fun z => Bool.noConfusion z) passF rfl (pa_cons (pv 0) pa_nil))))
set_option maxRecDepth 100000 in
theorem ok_untold (F : FnP K "untold" "untold" s_untold f fd) (gm : mg "untold" = some (.ref f)) (B : Bi mg) (C_value_of : Cl P w K mg base (L2N.CX P w) false "value_of" 7 ["text"] (sp_value_ofX K D)) (R : Rz P w K mg base "InvalidText" D ["self", "text", "at"] (spI2 D "text" "at")) : Cl P w K mg base (L2N.CX P w) false "untold" 8 ["text"] (sp_untoldX K D) := by
  refine cl_of F gm sc_untold len_untoldX (fun _ _ _ _ _ _ us hl => match us, hl with | [_], _ => rfl) (fun cdv A outer s H vs Q E hr hg h => ⟨t_untoldX K D E, ?_, go_untoldX h⟩)
  have tk := L2N.takes_of (X := cxOf (L2N.CX P w) P w K mg base N_untold "untold" (defScope s_untold) f cdv A outer s H E) (E := E) rfl rfl rfl rfl
  have nd := sc_untold.nd
  have hu2 := hr.units
  have hu3 := hu65 hr
  exact (pss_one (ps_ret (pe_cl C_value_of (hr.mono (by decide)) (fun z => Bool.noConfusion z) (L2N.passes_call tk fun _ _ _ _ h => h) rfl (pa_cons (pv 0) pa_nil))))
set_option maxRecDepth 100000 in
theorem ok_law_box (F : FnP K "_law_box" "_law_box" s_law_box f fd) (gm : mg "_law_box" = some (.ref f)) (B : Bi mg)  : Cl P w K mg base (L2N.CX P w) false "_law_box" 1 ["script"] (sp_law_box K) := by
  refine cl_of F gm sc_law_box len_law_box (fun _ _ _ _ _ _ us hl => match us, hl with | [_], _ => rfl) (fun cdv A outer s H vs Q E hr hg h => ⟨t_box K, PSs.nox ?_, go_law_box h⟩)
  have nd := sc_law_box.nd
  have hu2 := hr.units
  have hu3 := hu65 hr
  exact (pss_cons (ps_setLc (i := 1) (own := [("cell", 3)]) (g := gName 3) (tt := tYes) rfl nd rfl rfl (sw_true rfl rfl rfl (by decide +kernel)) (pi_any (pe_slice sl_P (pv 0) po_none (po_some pe_int))) (blkOk_by (own := [("cell", 3)]) (N := N_law_box) (sc := defScope s_law_box) (by decide +kernel)) (fun _ _ _ _ _ => pg_name (i := 3) nd rfl (Or.inl rfl)) (fun _ _ _ _ _ => pts_nil) (fun _ _ _ _ _ => (pe_callB call_absP rfl B.b_abs (by decide +kernel) (pa_cons (pe_callTy call_intP rfl B.b_int (by decide +kernel) (pa_cons (pv 3) pa_nil)) pa_nil))))
    (pss_cons (ps_setLc (i := 2) (own := [("cell", 3)]) (g := gName 3) (tt := (tTest (tOp rGeI (tVar 3) (tOp rPowI (tC (.int 10)) (tC (.int 18)))))) rfl nd rfl rfl (sw_true rfl rfl rfl (by decide +kernel)) (pi_any (pv 1)) (blkOk_by (own := [("cell", 3)]) (N := N_law_box) (sc := defScope s_law_box) (by decide +kernel)) (fun _ _ _ _ _ => pg_name (i := 3) nd rfl (Or.inl rfl)) (fun _ _ _ _ _ => (pts_one (pt_cmpR op_ge (pv 3) (pe_op op_pow pe_int pe_int) (nomark _)))) (fun _ _ _ _ _ => (pv 3)))
    (pss_one (ps_ret (pe_lst (pa_cons (pe_lstRev rfl rfl B.b_list rfl B.b_reversed (pv 2)) (pa_cons (pe_op op_addP (pe_lc (own := [("cell", 3)]) (g := gName 3) (tt := tYes) rfl nd (pi_any (pv 1)) (blkOk_by (own := [("cell", 3)]) (N := N_law_box) (sc := defScope s_law_box) (by decide +kernel)) (fun _ _ _ _ _ => pg_name (i := 3) nd rfl (Or.inl rfl)) (fun _ _ _ _ _ => pts_nil) (fun _ _ _ _ _ => (pe_op op_mod (pe_callTy call_intP rfl B.b_int (by decide +kernel) (pa_cons (pv 3) pa_nil)) pe_int))) (pe_lst (pa_cons pe_int pa_nil))) (pa_cons pe_int pa_nil))))))))
set_option maxRecDepth 100000 in
theorem ok_law_draw (F : FnP K "_law_draw" "_law_draw" s_law_draw f fd) (gm : mg "_law_draw" = some (.ref f)) (B : Bi mg)  : Cl P w K mg base (L2N.CX P w) false "_law_draw" 1 ["box", "limit"] (sp_law_draw K) := by
  refine cl_of F gm sc_law_draw len_law_draw (fun _ _ _ _ _ _ us hl => match us, hl with | [_, _], _ => rfl) (fun cdv A outer s H vs Q E hr hg h => ⟨t_draw K, PSs.nox ?_, go_law_draw h⟩)
  have nd := sc_law_draw.nd
  have hu2 := hr.units
  have hu3 := hu65 hr
  exact (pss_cons (ps_set (i := 2) nd rfl (Or.inl rfl) (pe_ix ix_seq (pv 0) pe_int (fun _ _ => rfl)))
    (pss_cons (ps_asg (pe_op op_addP (pe_ix ix_seq (pv 0) pe_int (fun _ _ => rfl)) pe_int) (pg_sub (pv 0) pe_int set_list))
    (pss_cons (ps_while PassesOwn.never (PW.pt (pw_and (pt_cmpR op_gt (pe_callB call_lenP rfl B.b_len (by decide +kernel) (pa_cons (pv 2) pa_nil)) pe_int (nomark _)) (pw_and1 (pt_cmpR (op_eqP hu2) (pe_ix ix_seq (pv 2) (pe_un un_neg pe_int) (fun _ _ => rfl)) pe_int (nomark _))))) (pss_one (ps_expr (pe_bm0 PySem.F.plainAttrs_list PySem.F.slot_list_pop PySem.F.type_list_pop mt_pop (pv 2)))))
    (pss_cons (ps_if (pt_cmpR op_gt (pe_callB call_lenP rfl B.b_len (by decide +kernel) (pa_cons (pv 2) pa_nil)) pe_int (nomark _)) (pss_cons (ps_set (i := 5) nd rfl (Or.inl rfl) (pe_op op_mod (pe_callTy call_intP rfl B.b_int (by decide +kernel) (pa_cons (pe_ix ix_seq (pv 2) (pe_un un_neg pe_int) (fun _ _ => rfl)) pa_nil)) (pv 1)))
    (pss_cons (ps_asg (pe_op op_fdiv (pe_ix ix_seq (pv 2) (pe_un un_neg pe_int) (fun _ _ => rfl)) (pv 1)) (pg_sub (pv 2) (pe_un un_neg pe_int) set_list))
    (pss_one (ps_ret (pv 5))))) pss_nil)
    (pss_cons (ps_set (i := 3) nd rfl (Or.inl rfl) (pe_ix ix_seq (pe_ix ix_seq (pv 0) pe_int (fun _ _ => rfl)) (pe_op op_mod (pe_callTy call_intP rfl B.b_int (by decide +kernel) (pa_cons (pe_ix ix_seq (pv 0) pe_int (fun _ _ => rfl)) pa_nil)) (pe_callB call_lenP rfl B.b_len (by decide +kernel) (pa_cons (pe_ix ix_seq (pv 0) pe_int (fun _ _ => rfl)) pa_nil))) (fun _ _ => rfl)))
    (pss_cons (ps_set (i := 4) nd rfl (Or.inl rfl) (pe_op op_mod (pe_callTy call_intP rfl B.b_int (by decide +kernel) (pa_cons (pe_op op_addP (pe_op op_addP (pe_op op_mulP (pv 3) pe_int) (pe_op op_mulP (pe_ix ix_seq (pv 0) pe_int (fun _ _ => rfl)) pe_int)) pe_int) pa_nil)) pe_int))
    (pss_cons (ps_set (i := 4) nd rfl (Or.inl rfl) (pe_op op_mod (pe_callTy call_intP rfl B.b_int (by decide +kernel) (pa_cons (pe_op op_addP (pe_op op_addP (pe_op op_mulP (pv 4) (pv 4)) (pe_op op_mulP (pe_ix ix_seq (pv 0) pe_int (fun _ _ => rfl)) pe_int)) (pe_op op_fdiv (pv 3) pe_int)) pa_nil)) pe_int))
    (pss_cons (ps_set (i := 4) nd rfl (Or.inl rfl) (pe_op op_mod (pe_callTy call_intP rfl B.b_int (by decide +kernel) (pa_cons (pe_op op_addP (pe_op op_addP (pe_op op_mulP (pe_op op_mulP (pv 4) (pv 4)) pe_int) (pv 3)) pe_int) pa_nil)) pe_int))
    (pss_one (ps_ret (pe_op op_mod (pe_callTy call_intP rfl B.b_int (by decide +kernel) (pa_cons (pe_op op_fdiv (pv 4) pe_int) pa_nil)) (pv 1))))))))))))
set_option maxRecDepth 100000 in
theorem ok_law_same (F : FnP K "_law_same" "_law_same" s_law_same f fd) (gm : mg "_law_same" = some (.ref f)) (B : Bi mg)  : Cl P w K mg base (L2N.CX P w) true "_law_same" 1 ["due", "got"] (sp_law_same K) := by
  refine cl_of F gm sc_law_same len_law_same (fun _ _ _ _ _ _ us hl => match us, hl with | [_, _], _ => rfl) (fun cdv A outer s H vs Q E hr hg h => ⟨t_law_same K, PSs.nox ?_, go_law_same h⟩)
  have nd := sc_law_same.nd
  have hu2 := hr.units
  have hg := hg rfl
  have hu := hu70 hr
  exact (pss_one (ps_ret (pe_and (pe_cmpR (op_eqP hu2) (pv 0) (pv 1) (nomark _)) (pe_one (pe_cmpR (op_eqP hu2) (pe_callB (call_reprD hu hg) rfl B.b_repr (by decide +kernel) (pa_cons (pv 0) pa_nil)) (pe_callB (call_reprD hu hg) rfl B.b_repr (by decide +kernel) (pa_cons (pv 1) pa_nil)) (nomark _))))))
set_option maxRecDepth 100000 in
theorem ok_law_reads (F : FnP K "_law_reads" "_law_reads" s_law_reads f fd) (gm : mg "_law_reads" = some (.ref f)) (B : Bi mg)  : Cl P w K mg base (L2N.CX P w) false "_law_reads" 1 ["text"] (sp_law_reads K) := by
  refine cl_of F gm sc_law_reads len_law_reads (fun _ _ _ _ _ _ us hl => match us, hl with | [_], _ => rfl) (fun cdv A outer s H vs Q E hr hg h => ⟨t_law_reads K, PSs.nox ?_, go_law_reads h⟩)
  have nd := sc_law_reads.nd
  have hu2 := hr.units
  have hu3 := hu65 hr
  exact (pss_cons (ps_set (i := 1) nd rfl (Or.inl rfl) pe_int)
    (pss_cons (ps_set (i := 2) nd rfl (Or.inl rfl) pe_int)
    (pss_cons (ps_set (i := 3) nd rfl (Or.inl rfl) pe_bl)
    (pss_cons (ps_for PassesOwn.never rfl (pi_range1 rfl B.b_range (pa_cons (pe_callB call_lenP rfl B.b_len (by decide +kernel) (pa_cons (pv 0) pa_nil)) pa_nil)) (pg_name (i := 4) nd rfl (Or.inl rfl)) (pss_cons (ps_if (pt_cmpR (op_eqP hu2) (pv 2) (pe_callB call_lenP rfl B.b_len (by decide +kernel) (pa_cons (pv 0) pa_nil)) (nomark _)) (pss_one ps_break) pss_nil)
    (pss_cons (ps_set (i := 5) nd rfl (Or.inl rfl) (pe_ix ix_seq (pv 0) (pv 2) (fun _ _ => rfl)))
    (pss_cons (ps_set (i := 6) nd rfl (Or.inl rfl) (pe_op op_addP (pv 2) pe_int))
    (pss_cons (ps_if (pt_truth (pv 3) (by intro _; rfl)) (pss_cons (ps_if (PW.pt (pw_or (pt_cmpR (op_eqP hu2) (pv 1) pe_int (nomark _)) (pw_or1 (pt_cmpR (op_neP hu2) (pv 5) pe_str (nomark _))))) (pss_one (ps_ret pe_bl)) pss_nil)
    (pss_one (ps_set (i := 3) nd rfl (Or.inl rfl) pe_bl))) (pss_one (ps_if (pt_cmpR (op_eqP hu2) (pv 5) pe_str (nomark _)) (pss_cons (ps_set (i := 1) nd rfl (Or.inl rfl) (pe_op op_addP (pv 1) pe_int))
    (pss_one (ps_if (pt_cmpR op_gt (pv 1) pe_int (nomark _)) (pss_one (ps_ret pe_bl)) pss_nil))) (pss_cons (ps_set (i := 3) nd rfl (Or.inl rfl) pe_bl)
    (pss_one (ps_if (pt_cmpR (op_eqP hu2) (pv 5) pe_str (nomark _)) (pss_cons (ps_set (i := 1) nd rfl (Or.inl rfl) (pe_op op_sub (pv 1) pe_int))
    (pss_one (ps_if (pt_cmpR op_lt (pv 1) pe_int (nomark _)) (pss_one (ps_ret pe_bl)) pss_nil))) (pss_one (ps_if (pt_cmpR (op_eqP hu2) (pv 5) pe_str (nomark _)) (pss_cons (ps_set (i := 6) nd rfl (Or.inl rfl) (pe_op op_addP (pe_bm PySem.F.plainAttrs_str PySem.F.slot_str_find PySem.F.type_str_find mt_find3 (pv 0) (pa_cons pe_str (pa_cons (pe_op op_addP (pv 2) pe_int) pa_nil))) pe_int))
    (pss_cons (ps_set (i := 7) nd rfl (Or.inl rfl) (pe_slice sl_P (pv 0) (po_some (pe_op op_addP (pv 2) pe_int)) (po_some (pe_callB (call_maxP rfl) rfl B.b_max (by decide +kernel) (pa_cons (pe_op op_sub (pv 6) pe_int) (pa_cons (pe_op op_addP (pv 2) pe_int) pa_nil))))))
    (pss_one (ps_if (PW.pt (pw_or (pt_cmpR (op_eqP hu2) (pv 6) pe_int (nomark _)) (pw_or1 (pt_cmpR op_gt (pe_callB call_lenP rfl B.b_len (by decide +kernel) (pa_cons (pe_lc (own := [("one", 8)]) (g := gName 8) (tt := (tTest (tOp rNotInS (tVar 8) (tC (.str "abcdefghijklmnopqrstuvwxyz"))))) rfl nd (pi_str (pv 7)) (blkOk_by (own := [("one", 8)]) (N := N_law_reads) (sc := defScope s_law_reads) (by decide +kernel)) (fun _ _ _ _ _ => pg_name (i := 8) nd rfl (Or.inl rfl)) (fun _ _ _ _ _ => (pts_one (pt_cmpR op_notInS (pv 8) pe_str rfl))) (fun _ _ _ _ _ => (pv 8))) pa_nil)) pe_int (nomark _))))) (pss_one (ps_ret pe_bl)) pss_nil)))) (pss_one (ps_if (pt_cmpR op_inS (pv 5) pe_str rfl) (pss_cons (ps_set (i := 6) nd rfl (Or.inl rfl) (pe_op op_sub (pe_op op_addP (pv 2) (pe_callB call_lenP rfl B.b_len (by decide +kernel) (pa_cons (pe_slice sl_P (pv 0) (po_some (pv 2)) po_none) pa_nil))) (pe_callB call_lenP rfl B.b_len (by decide +kernel) (pa_cons (pe_bm PySem.F.plainAttrs_str PySem.F.slot_str_lstrip PySem.F.type_str_lstrip mt_lstripChars (pe_slice sl_P (pv 0) (po_some (pv 2)) po_none) (pa_cons pe_str pa_nil)) pa_nil))))
    (pss_one (ps_if (PW.pt (pw_or (pt_cmpR op_gt (pe_op op_sub (pv 6) (pv 2)) pe_int (nomark _)) (pw_or1 (PW.pt (pw_and (pt_cmpR op_gt (pe_op op_sub (pv 6) (pv 2)) pe_int (nomark _)) (pw_and1 (pt_cmpR (op_eqP hu2) (pv 5) pe_str (nomark _)))))))) (pss_one (ps_ret pe_bl)) pss_nil))) (pss_one (ps_if (pt_cmpR (op_neP hu2) (pv 5) pe_str (nomark _)) (pss_one (ps_ret pe_bl)) pss_nil))))))))))))
    (pss_one (ps_set (i := 2) nd rfl (Or.inl rfl) (pv 6))))))))
    (pss_one (ps_ret (pe_and (pv 3) (pe_and (pe_cmpR (op_eqP hu2) (pv 1) pe_int (nomark _)) (pe_one (pe_cmpR (op_eqP hu2) (pv 2) (pe_callB call_lenP rfl B.b_len (by decide +kernel) (pa_cons (pv 0) pa_nil)) (nomark _)))))))))))
set_option maxRecDepth 100000 in
theorem ok_law_text (F : FnP K "_law_text" "_law_text" s_law_text f fd) (gm : mg "_law_text" = some (.ref f)) (B : Bi mg) (C_law_draw : Cl P w K mg base (L2N.CX P w) false "_law_draw" 1 ["box", "limit"] (sp_law_draw K)) : Cl P w K mg base (L2N.CX P w) false "_law_text" 2 ["box"] (sp_law_text K) := by
  refine cl_of F gm sc_law_text len_law_text (fun _ _ _ _ _ _ us hl => match us, hl with | [_], _ => rfl) (fun cdv A outer s H vs Q E hr hg h => ⟨t_law_text K, PSs.nox ?_, go_law_text h⟩)
  have nd := sc_law_text.nd
  have hu2 := hr.units
  have hu3 := hu65 hr
  exact (pss_cons (ps_set (i := 1) nd rfl (Or.inl rfl) (pe_lst pa_nil))
    (pss_cons (ps_for PassesOwn.never rfl (pi_range1 rfl B.b_range (pa_cons (pe_op op_addP pe_int (pe_cl C_law_draw (hr.mono (by decide)) (fun z => Bool.noConfusion z) passF rfl (pa_cons (pv 0) (pa_cons pe_int pa_nil)))) pa_nil)) (pg_name (i := 2) nd rfl (Or.inl rfl)) (pss_cons (ps_set (i := 3) nd rfl (Or.inl rfl) (pe_cl C_law_draw (hr.mono (by decide)) (fun z => Bool.noConfusion z) passF rfl (pa_cons (pv 0) (pa_cons pe_int pa_nil))))
    (pss_one (ps_if (pt_cmpR op_lt (pv 3) pe_int (nomark _)) (pss_one (ps_expr (pe_bm PySem.F.plainAttrs_list PySem.F.slot_list_append PySem.F.type_list_append mt_append (pv 1) (pa_cons (pe_ix ix_seq (pe_lst (pa_cons pe_str (pa_cons pe_str (pa_cons pe_str (pa_cons pe_str (pa_cons pe_str pa_nil)))))) (pe_cl C_law_draw (hr.mono (by decide)) (fun z => Bool.noConfusion z) passF rfl (pa_cons (pv 0) (pa_cons pe_int pa_nil))) (fun _ _ => rfl)) pa_nil)))) (pss_one (ps_if (pt_cmpR (op_eqP hu2) (pv 3) pe_int (nomark _)) (pss_one (ps_expr (pe_bm PySem.F.plainAttrs_list PySem.F.slot_list_append PySem.F.type_list_append mt_append (pv 1) (pa_cons pe_str pa_nil)))) (pss_one (ps_if (pt_cmpR (op_eqP hu2) (pv 3) pe_int (nomark _)) (pss_one (ps_expr (pe_bm PySem.F.plainAttrs_list PySem.F.slot_list_append PySem.F.type_list_append mt_append (pv 1) (pa_cons (pe_op op_addP (pe_op op_addP pe_str (pe_ix ix_seq (pe_lst (pa_cons pe_str (pa_cons pe_str (pa_cons pe_str (pa_cons pe_str (pa_cons pe_str pa_nil)))))) (pe_cl C_law_draw (hr.mono (by decide)) (fun z => Bool.noConfusion z) passF rfl (pa_cons (pv 0) (pa_cons pe_int pa_nil))) (fun _ _ => rfl))) pe_str) pa_nil)))) (pss_cons (ps_set (i := 4) nd rfl (Or.inl rfl) (pe_callB (call_minP rfl) rfl B.b_min (by decide +kernel) (pa_cons (pe_cl C_law_draw (hr.mono (by decide)) (fun z => Bool.noConfusion z) passF rfl (pa_cons (pv 0) (pa_cons pe_int pa_nil))) (pa_cons (pe_callB call_lenP rfl B.b_len (by decide +kernel) (pa_cons (pv 1) pa_nil)) pa_nil))))
    (pss_cons (ps_set (i := 5) nd rfl (Or.inl rfl) (pe_m1 PySem.F.slot_str_join PySem.F.type_str_join mt_joinP pe_str (pe_lc (own := [("part", 6)]) (g := gName 6) (tt := tYes) rfl nd (pi_any (pe_slice sl_P (pv 1) (po_some (pe_op op_sub (pe_callB call_lenP rfl B.b_len (by decide +kernel) (pa_cons (pv 1) pa_nil)) (pv 4))) po_none)) (blkOk_by (own := [("part", 6)]) (N := N_law_text) (sc := defScope s_law_text) (by decide +kernel)) (fun _ _ _ _ _ => pg_name (i := 6) nd rfl (Or.inl rfl)) (fun _ _ _ _ _ => pts_nil) (fun _ _ _ _ _ => (pe_op op_addP (pv 6) pe_str)))))
    (pss_one (ps_set (i := 1) nd rfl (Or.inl rfl) (pe_op op_addP (pe_slice sl_P (pv 1) po_none (po_some (pe_op op_sub (pe_callB call_lenP rfl B.b_len (by decide +kernel) (pa_cons (pv 1) pa_nil)) (pv 4)))) (pe_lst (pa_cons (pe_op op_addP (pe_op op_addP pe_str (pv 5)) pe_str) pa_nil)))))))))))))))
    (pss_cons (ps_if (pt_cmpR (op_eqP hu2) (pe_callB call_lenP rfl B.b_len (by decide +kernel) (pa_cons (pv 1) pa_nil)) pe_int (nomark _)) (pss_one (ps_ret (pe_ix ix_seq (pv 1) pe_int (fun _ _ => rfl)))) pss_nil)
    (pss_one (ps_ret (pe_op op_addP (pe_op op_addP pe_str (pe_m1 PySem.F.slot_str_join PySem.F.type_str_join mt_joinP pe_str (pe_lc (own := [("part", 6)]) (g := gName 6) (tt := tYes) rfl nd (pi_any (pv 1)) (blkOk_by (own := [("part", 6)]) (N := N_law_text) (sc := defScope s_law_text) (by decide +kernel)) (fun _ _ _ _ _ => pg_name (i := 6) nd rfl (Or.inl rfl)) (fun _ _ _ _ _ => pts_nil) (fun _ _ _ _ _ => (pe_op op_addP (pv 6) pe_str))))) pe_str))))))
set_option maxRecDepth 100000 in
theorem ok_law_bent (F : FnP K "_law_bent" "_law_bent" s_law_bent f fd) (gm : mg "_law_bent" = some (.ref f)) (B : Bi mg) (C_law_draw : Cl P w K mg base (L2N.CX P w) false "_law_draw" 1 ["box", "limit"] (sp_law_draw K)) : Cl P w K mg base (L2N.CX P w) false "_law_bent" 2 ["box", "text"] (sp_law_bent K) := by
  refine cl_of F gm sc_law_bent len_law_bent (fun _ _ _ _ _ _ us hl => match us, hl with | [_, _], _ => rfl) (fun cdv A outer s H vs Q E hr hg h => ⟨t_law_bent K, PSs.nox ?_, go_law_bent h⟩)
  have nd := sc_law_bent.nd
  have hu2 := hr.units
  have hu3 := hu65 hr
  exact (pss_cons (ps_for PassesOwn.never rfl (pi_range1 rfl B.b_range (pa_cons (pe_op op_addP pe_int (pe_cl C_law_draw (hr.mono (by decide)) (fun z => Bool.noConfusion z) passF rfl (pa_cons (pv 0) (pa_cons pe_int pa_nil)))) pa_nil)) (pg_name (i := 2) nd rfl (Or.inl rfl)) (pss_cons (ps_set (i := 3) nd rfl (Or.inl rfl) (pe_cl C_law_draw (hr.mono (by decide)) (fun z => Bool.noConfusion z) passF rfl (pa_cons (pv 0) (pa_cons (pe_op op_addP (pe_callB call_lenP rfl B.b_len (by decide +kernel) (pa_cons (pv 1) pa_nil)) pe_int) pa_nil))))
    (pss_cons (ps_set (i := 4) nd rfl (Or.inl rfl) (pe_lst (pa_cons pe_str (pa_cons pe_str (pa_cons pe_str (pa_cons pe_str (pa_cons pe_str (pa_cons pe_str (pa_cons pe_str (pa_cons pe_str (pa_cons pe_str (pa_cons pe_str (pa_cons pe_str (pa_cons pe_str (pa_cons pe_str (pa_cons pe_str (pa_cons pe_str (pa_cons pe_str pa_nil))))))))))))))))))
    (pss_cons (ps_set (i := 5) nd rfl (Or.inl rfl) (pe_ix ix_seq (pv 4) (pe_cl C_law_draw (hr.mono (by decide)) (fun z => Bool.noConfusion z) passF rfl (pa_cons (pv 0) (pa_cons pe_int pa_nil))) (fun _ _ => rfl)))
    (pss_cons (ps_set (i := 6) nd rfl (Or.inl rfl) (pe_cl C_law_draw (hr.mono (by decide)) (fun z => Bool.noConfusion z) passF rfl (pa_cons (pv 0) (pa_cons pe_int pa_nil))))
    (pss_one (ps_if (pt_cmpR (op_eqP hu2) (pv 6) pe_int (nomark _)) (pss_one (ps_set (i := 1) nd rfl (Or.inl rfl) (pe_op op_addP (pe_slice sl_P (pv 1) po_none (po_some (pv 3))) (pe_slice sl_P (pv 1) (po_some (pe_op op_addP (pv 3) pe_int)) po_none)))) (pss_one (ps_if (pt_cmpR (op_eqP hu2) (pv 6) pe_int (nomark _)) (pss_one (ps_set (i := 1) nd rfl (Or.inl rfl) (pe_op op_addP (pe_op op_addP (pe_slice sl_P (pv 1) po_none (po_some (pv 3))) (pv 5)) (pe_slice sl_P (pv 1) (po_some (pv 3)) po_none)))) (pss_one (ps_set (i := 1) nd rfl (Or.inl rfl) (pe_op op_addP (pe_op op_addP (pe_slice sl_P (pv 1) po_none (po_some (pv 3))) (pv 5)) (pe_slice sl_P (pv 1) (po_some (pe_op op_addP (pv 3) pe_int)) po_none)))))))))))))
    (pss_one (ps_ret (pv 1))))
set_option maxRecDepth 100000 in
theorem ok_law_all (F : FnP K "_law_all" "_law_all" s_law_all f fd) (gm : mg "_law_all" = some (.ref f)) (B : Bi mg) (C_law_bent : Cl P w K mg base (L2N.CX P w) false "_law_bent" 2 ["box", "text"] (sp_law_bent K)) (C_law_box : Cl P w K mg base (L2N.CX P w) false "_law_box" 1 ["script"] (sp_law_box K)) (C_law_draw : Cl P w K mg base (L2N.CX P w) false "_law_draw" 1 ["box", "limit"] (sp_law_draw K)) (C_law_reads : Cl P w K mg base (L2N.CX P w) false "_law_reads" 1 ["text"] (sp_law_reads K)) (C_law_right : Cl P w K mg base (L2N.CX P w) true "_law_right" 9 ["text"] (sp_law_right K)) (C_law_text : Cl P w K mg base (L2N.CX P w) false "_law_text" 2 ["box"] (sp_law_text K)) : Cl P w K mg base (L2N.CX P w) true "_law_all" 10 ["script"] (sp_law_all K) := by
  refine cl_of F gm sc_law_all len_law_all (fun _ _ _ _ _ _ us hl => match us, hl with | [_], _ => rfl) (fun cdv A outer s H vs Q E hr hg h => ⟨t_law_all K, PSs.nox ?_, go_law_all h⟩)
  have nd := sc_law_all.nd
  have hu2 := hr.units
  have hg := hg rfl
  have hu := hu70 hr
  exact (pss_cons (ps_set (i := 1) nd rfl (Or.inl rfl) (pe_cl C_law_box (hr.mono (by decide)) (fun z => Bool.noConfusion z) passF rfl (pa_cons (pv 0) pa_nil)))
    (pss_cons (ps_for PassesOwn.never rfl (pi_range1 rfl B.b_range (pa_cons pe_int pa_nil)) (pg_name (i := 2) nd rfl (Or.inl rfl)) (pss_cons (ps_set (i := 6) nd rfl (Or.inl rfl) (pe_cl C_law_text (hr.mono (by decide)) (fun z => Bool.noConfusion z) passF rfl (pa_cons (pv 1) pa_nil)))
    (pss_one (ps_if (PW.pt (pw_or (pt_not (pt_truth (pe_cl C_law_reads (hr.mono (by decide)) (fun z => Bool.noConfusion z) passF rfl (pa_cons (pv 6) pa_nil)) (by intro _; rfl))) (pw_or (pt_not (pt_truth (pe_cl C_law_right (hr.mono (by decide)) (fun _ => hg) passF rfl (pa_cons (pv 6) pa_nil)) (by intro _; rfl))) (pw_or1 (pt_not (pt_truth (pe_cl C_law_right (hr.mono (by decide)) (fun _ => hg) passF rfl (pa_cons (pe_cl C_law_bent (hr.mono (by decide)) (fun z => Bool.noConfusion z) passF rfl (pa_cons (pv 1) (pa_cons (pv 6) pa_nil))) pa_nil)) (by intro _; rfl))))))) (pss_one (ps_ret pe_bl)) pss_nil))))
    (pss_cons (ps_set (i := 3) nd rfl (Or.inl rfl) (pe_ix ix_seq (pe_lst (pa_cons pe_str (pa_cons pe_str (pa_cons pe_str (pa_cons pe_str pa_nil))))) (pe_cl C_law_draw (hr.mono (by decide)) (fun z => Bool.noConfusion z) passF rfl (pa_cons (pv 1) (pa_cons pe_int pa_nil))) (fun _ _ => rfl)))
    (pss_cons (ps_for PassesOwn.never rfl (pi_any (pe_lst (pa_cons pe_int (pa_cons pe_int (pa_cons pe_int (pa_cons pe_int pa_nil)))))) (pg_name (i := 4) nd rfl (Or.inl rfl)) (pss_one (ps_if (pt_not (pt_truth (pe_cl C_law_right (hr.mono (by decide)) (fun _ => hg) passF rfl (pa_cons (pe_op op_addP (pe_op op_addP (pe_op op_mulS pe_str (pv 4)) (pv 3)) (pe_op op_mulS pe_str (pv 4))) pa_nil)) (by intro _; rfl))) (pss_one (ps_ret pe_bl)) pss_nil)))
    (pss_cons (ps_set (i := 5) nd rfl (Or.inl rfl) (pe_ix ix_seq pe_str (pe_cl C_law_draw (hr.mono (by decide)) (fun z => Bool.noConfusion z) passF rfl (pa_cons (pv 1) (pa_cons pe_int pa_nil))) (fun _ _ => rfl)))
    (pss_cons (ps_for PassesOwn.never rfl (pi_any (pe_lst (pa_cons pe_int (pa_cons pe_int (pa_cons pe_int pa_nil))))) (pg_name (i := 4) nd rfl (Or.inl rfl)) (pss_one (ps_if (PW.pt (pw_or (pt_not (pt_truth (pe_cl C_law_right (hr.mono (by decide)) (fun _ => hg) passF rfl (pa_cons (pe_op op_mulS (pv 5) (pv 4)) pa_nil)) (by intro _; rfl))) (pw_or1 (pt_not (pt_truth (pe_cl C_law_right (hr.mono (by decide)) (fun _ => hg) passF rfl (pa_cons (pe_op op_addP (pe_op op_addP pe_str (pe_op op_mulS (pv 5) (pv 4))) pe_str) pa_nil)) (by intro _; rfl)))))) (pss_one (ps_ret pe_bl)) pss_nil)))
    (pss_one (ps_ret (pe_and (pe_cl C_law_right (hr.mono (by decide)) (fun _ => hg) passF rfl (pa_cons pe_str pa_nil)) (pe_and (pe_cl C_law_right (hr.mono (by decide)) (fun _ => hg) passF rfl (pa_cons (pe_op op_addP pe_str (pv 5)) pa_nil)) (pe_and (pe_cl C_law_right (hr.mono (by decide)) (fun _ => hg) passF rfl (pa_cons (pe_op op_addP (pv 6) pe_str) pa_nil)) (pe_one (pe_cl C_law_right (hr.mono (by decide)) (fun _ => hg) passF rfl (pa_cons (pe_op op_addP pe_str (pv 6)) pa_nil))))))))))))))
set_option maxRecDepth 100000 in
theorem ok_law (F : FnP K "law" "law" s_law f fd) (gm : mg "law" = some (.ref f)) (B : Bi mg) (C_law_all : Cl P w K mg base (L2N.CX P w) true "_law_all" 10 ["script"] (sp_law_all K)) : Cl P w K mg base (L2N.CX P w) true "law" 11 ["script"] (sp_law K) := by
  refine cl_of F gm sc_law len_law (fun _ _ _ _ _ _ us hl => match us, hl with | [_], _ => rfl) (fun cdv A outer s H vs Q E hr hg h => ⟨t_law K, PSs.nox ?_, go_law h⟩)
  have nd := sc_law.nd
  have hu2 := hr.units
  have hg := hg rfl
  have hu := hu70 hr
  exact (pss_one (ps_try_only (tb := fun _ => (tRet (tCall (sp_law_all K) [] E0 (tCons (tVar 0) tNil)))) (ts := fun _ _ _ => (tRet (tC (.bl false)))) (Wout := fun _ _ _ _ => False) rfl rfl ⟨rfl, by decide, .inl (B.x_HallError).choose_spec⟩ takes0 (fun W pn xe tk hp => (pss_one (ps_ret (pe_cl C_law_all (hr.mono (by decide)) (fun _ => hg) passF rfl (pa_cons (pv 0) pa_nil))))) (fun a oe cls dd pn _ _ => (pss_one (ps_ret pe_bl)))))
set_option maxRecDepth 100000 in
theorem okF_law (F : FnP K "law" "law" s_law f fd) (gm : mg "law" = some (.ref f)) (B : Bi mg) (C_law_all : Cl P w K mg base (L2N.CX P w) true "_law_all" 10 ["script"] (sp_law_all K)) : FnG P w K mg base (L2N.CX P w) true 11 f fd ["script"] (sp_law K) := by
  refine fn_ofG F sc_law len_law (fun cdv A outer s H vs Q E hr hg h => ⟨t_law K, PSs.nox ?_, go_law h⟩)
  have nd := sc_law.nd
  have hu2 := hr.units
  have hg := hg rfl
  have hu := hu70 hr
  exact (pss_one (ps_try_only (tb := fun _ => (tRet (tCall (sp_law_all K) [] E0 (tCons (tVar 0) tNil)))) (ts := fun _ _ _ => (tRet (tC (.bl false)))) (Wout := fun _ _ _ _ => False) rfl rfl ⟨rfl, by decide, .inl (B.x_HallError).choose_spec⟩ takes0 (fun W pn xe tk hp => (pss_one (ps_ret (pe_cl C_law_all (hr.mono (by decide)) (fun _ => hg) passF rfl (pa_cons (pv 0) pa_nil))))) (fun a oe cls dd pn _ _ => (pss_one (ps_ret pe_bl)))))
end
end Mh
namespace Mh
open PySem PySem.Spec PyProof.Rows L2 TL L2H
section
variable {P : Program} {w : World} {K : PySem.W.Frag} {mg : Str → Option Value} {base : Heap} {f D : Addr} {fd : FuncData}
theorem hk_law_reads (F : FnP K "_law_reads" "_law_reads" s_law_reads f fd) (gm : mg "_law_reads" = some (.ref f)) (B : Bi mg) : ClH P w K mg base (L2N.CX P w) "_law_reads" 1 ["text"] (sp_law_reads K) := by
  refine clH_of F gm sc_law_reads len_law_reads (fun _ _ _ _ _ _ us hl => match us, hl with | [_], _ => rfl) (fun cdv A outer s H vs Q E p hot1 hr h => ⟨t_law_reads K, PSs.nox ?_, go_law_reads h⟩)
  have nd := sc_law_reads.nd
  have hu2 : (A.deeper (envOfC "_law_reads" (defScope s_law_reads) s.heap.objs.size f cdv)).units + 64 < cLine := by have := hr.un; omega
  have hot : HotC (L2H.cxH (L2N.CX P w) P w K mg base N_law_reads "_law_reads" (defScope s_law_reads) f cdv A outer s H E p).nox := ⟨p, hot1, List.mem_cons_self⟩
  exact (pss_cons (ps_set (i := 1) nd rfl (Or.inl rfl) pe_int)
    (pss_cons (ps_set (i := 2) nd rfl (Or.inl rfl) pe_int)
    (pss_cons (ps_set (i := 3) nd rfl (Or.inl rfl) pe_bl)
    (pss_cons (ps_forH PassesOwn.never hot (pi_range1H rfl B.b_range (pa_cons (pe_callB call_lenP rfl B.b_len (by decide +kernel) (pa_cons (pv 0) pa_nil)) pa_nil)) (pg_name (i := 4) nd rfl (Or.inl rfl)) (pss_cons (ps_if (pt_cmpR (op_eqP hu2) (pv 2) (pe_callB call_lenP rfl B.b_len (by decide +kernel) (pa_cons (pv 0) pa_nil)) (nomark _)) (pss_one ps_break) pss_nil)
    (pss_cons (ps_set (i := 5) nd rfl (Or.inl rfl) (pe_ix ix_seq (pv 0) (pv 2) (fun _ _ => rfl)))
    (pss_cons (ps_set (i := 6) nd rfl (Or.inl rfl) (pe_op op_addP (pv 2) pe_int))
    (pss_cons (ps_if (pt_truth (pv 3) (by intro _; rfl)) (pss_cons (ps_if (PW.pt (pw_or (pt_cmpR (op_eqP hu2) (pv 1) pe_int (nomark _)) (pw_or1 (pt_cmpR (op_neP hu2) (pv 5) pe_str (nomark _))))) (pss_one (ps_ret pe_bl)) pss_nil)
    (pss_one (ps_set (i := 3) nd rfl (Or.inl rfl) pe_bl))) (pss_one (ps_if (pt_cmpR (op_eqP hu2) (pv 5) pe_str (nomark _)) (pss_cons (ps_set (i := 1) nd rfl (Or.inl rfl) (pe_op op_addP (pv 1) pe_int))
    (pss_one (ps_if (pt_cmpR op_gt (pv 1) pe_int (nomark _)) (pss_one (ps_ret pe_bl)) pss_nil))) (pss_cons (ps_set (i := 3) nd rfl (Or.inl rfl) pe_bl)
    (pss_one (ps_if (pt_cmpR (op_eqP hu2) (pv 5) pe_str (nomark _)) (pss_cons (ps_set (i := 1) nd rfl (Or.inl rfl) (pe_op op_sub (pv 1) pe_int))
    (pss_one (ps_if (pt_cmpR op_lt (pv 1) pe_int (nomark _)) (pss_one (ps_ret pe_bl)) pss_nil))) (pss_one (ps_if (pt_cmpR (op_eqP hu2) (pv 5) pe_str (nomark _)) (pss_cons (ps_set (i := 6) nd rfl (Or.inl rfl) (pe_op op_addP (pe_bm PySem.F.plainAttrs_str PySem.F.slot_str_find PySem.F.type_str_find mt_find3 (pv 0) (pa_cons pe_str (pa_cons (pe_op op_addP (pv 2) pe_int) pa_nil))) pe_int))
    (pss_cons (ps_set (i := 7) nd rfl (Or.inl rfl) (pe_slice sl_P (pv 0) (po_some (pe_op op_addP (pv 2) pe_int)) (po_some (pe_callB (call_max2H hot) rfl B.b_max (by decide +kernel) (pa_cons (pe_op op_sub (pv 6) pe_int) (pa_cons (pe_op op_addP (pv 2) pe_int) pa_nil))))))
    (pss_one (ps_if (PW.pt (pw_or (pt_cmpR (op_eqP hu2) (pv 6) pe_int (nomark _)) (pw_or1 (pt_cmpR op_gt (pe_callB call_lenP rfl B.b_len (by decide +kernel) (pa_cons (pe_lcSH (own := [("one", 8)]) (g := gName 8) (tt := (tTest (tOp rNotInS (tVar 8) (tC (.str "abcdefghijklmnopqrstuvwxyz"))))) hot nd (pv 7) (blkOk_by (own := [("one", 8)]) (N := N_law_reads) (sc := defScope s_law_reads) (by decide +kernel)) (fun _ _ _ _ _ => pg_name (i := 8) nd rfl (Or.inl rfl)) (fun _ _ _ _ _ => (pts_one (pt_cmpR op_notInS (pv 8) pe_str rfl))) (fun _ _ _ _ _ => (pv 8))) pa_nil)) pe_int (nomark _))))) (pss_one (ps_ret pe_bl)) pss_nil)))) (pss_one (ps_if (pt_cmpR op_inS (pv 5) pe_str rfl) (pss_cons (ps_set (i := 6) nd rfl (Or.inl rfl) (pe_op op_sub (pe_op op_addP (pv 2) (pe_callB call_lenP rfl B.b_len (by decide +kernel) (pa_cons (pe_slice sl_P (pv 0) (po_some (pv 2)) po_none) pa_nil))) (pe_callB call_lenP rfl B.b_len (by decide +kernel) (pa_cons (pe_bm PySem.F.plainAttrs_str PySem.F.slot_str_lstrip PySem.F.type_str_lstrip mt_lstripChars (pe_slice sl_P (pv 0) (po_some (pv 2)) po_none) (pa_cons pe_str pa_nil)) pa_nil))))
    (pss_one (ps_if (PW.pt (pw_or (pt_cmpR op_gt (pe_op op_sub (pv 6) (pv 2)) pe_int (nomark _)) (pw_or1 (PW.pt (pw_and (pt_cmpR op_gt (pe_op op_sub (pv 6) (pv 2)) pe_int (nomark _)) (pw_and1 (pt_cmpR (op_eqP hu2) (pv 5) pe_str (nomark _)))))))) (pss_one (ps_ret pe_bl)) pss_nil))) (pss_one (ps_if (pt_cmpR (op_neP hu2) (pv 5) pe_str (nomark _)) (pss_one (ps_ret pe_bl)) pss_nil))))))))))))
    (pss_one (ps_set (i := 2) nd rfl (Or.inl rfl) (pv 6))))))))
    (pss_one (ps_ret (pe_and (pv 3) (pe_and (pe_cmpR (op_eqP hu2) (pv 1) pe_int (nomark _)) (pe_one (pe_cmpR (op_eqP hu2) (pv 2) (pe_callB call_lenP rfl B.b_len (by decide +kernel) (pa_cons (pv 0) pa_nil)) (nomark _)))))))))))
theorem call_reprS {X : Cx} : CallR X (.builtin "repr") rReprS := by
  rintro pins s σ H xs us Q I r ⟨z, rfl, ok, q⟩
  obtain ⟨u, rfl, t, rfl⟩ := vals1 r
  have hl := ok.text
  rw [PyData.shown_str] at hl
  refine PySem.P.repr_of_str ?_ hl
  rw [PyData.shown_str] at q
  exact ⟨.str (reprText z), H, I.tok _, ⟨_, rfl⟩, q⟩
theorem len_sameS {K : PySem.W.Frag} : ∀ vs H Q E, sp_sameS K vs H Q E → vs.length = 2 := fun _ _ _ _ h => sp_len (fun ks S Z a => by obtain ⟨_, rfl, _⟩ := a; rfl) h
theorem hk_law_same (F : FnP K "_law_same" "_law_same" s_law_same f fd) (gm : mg "_law_same" = some (.ref f)) (B : Bi mg) : ClH P w K mg base (L2N.CX P w) "_law_same" 1 ["due", "got"] (sp_sameS K) := by
  refine clH_of F gm sc_law_same len_sameS (fun _ _ _ _ _ _ us hl => match us, hl with | [_, _], _ => rfl) (fun cdv A outer s H vs Q E p hot1 hr h => ⟨t_sameS K, PSs.nox ?_, go_sameS h⟩)
  have nd := sc_law_same.nd
  have hu2 : (A.deeper (envOfC "_law_same" (defScope s_law_same) s.heap.objs.size f cdv)).units + 64 < cLine := by have := hr.un; omega
  exact (pss_one (ps_ret (pe_and (pe_cmpR (op_eqP hu2) (pv 0) (pv 1) (nomark _)) (pe_one (pe_cmpR (op_eqP hu2) (pe_callB call_reprS rfl B.b_repr (by decide +kernel) (pa_cons (pv 0) pa_nil)) (pe_callB call_reprS rfl B.b_repr (by decide +kernel) (pa_cons (pv 1) pa_nil)) (nomark _))))))
end
end Mh
namespace Mh
open PySem PySem.Spec PyProof.Rows L2 TL L2H
section
variable {P : Program} {w : World} {K : PySem.W.Frag} {mg : Str → Option Value} {base : Heap} {f D : Addr} {fd : FuncData}
theorem takesN {X : Cx} : L2N.Takes X (fun _ _ _ _ => False) := fun _ _ x => by
  obtain ⟨_, _, _, _, _, _, _, _, _, _, _, _, _, _, _, _, z⟩ := x
  exact z.elim
theorem ok_law_right (hD : PySem.W.exmOne K (.ref D) (.ref D) = some true) (xf : XfC K D) (n1 : PySem.W.findIn K (.ref D) "text" = some none) (n2 : PySem.W.findIn K (.ref D) "at" = some none) (mD : mg "InvalidText" = some (.ref D)) (F : FnP K "_law_right" "_law_right" s_law_right f fd) (gm : mg "_law_right" = some (.ref f)) (B : Bi mg)
    (C_law_reads : Cl P w K mg base (L2N.CX P w) false "_law_reads" 1 ["text"] (sp_law_reads K)) (C_law_same : Cl P w K mg base (L2N.CX P w) true "_law_same" 1 ["due", "got"] (sp_law_same K)) (C_told : Cl P w K mg base (L2N.CX P w) false "told" 3 ["value"] (sp_told K)) (C_untold : Cl P w K mg base (L2N.CX P w) false "untold" 8 ["text"] (sp_untoldX K D))
    (H_law_reads : ClH P w K mg base (L2N.CX P w) "_law_reads" 1 ["text"] (sp_law_reads K)) (H_law_same : ClH P w K mg base (L2N.CX P w) "_law_same" 1 ["due", "got"] (sp_sameS K)) : Cl P w K mg base (L2N.CX P w) true "_law_right" 9 ["text"] (sp_law_right K) := by
  refine cl_of F gm sc_law_right len_law_right (fun _ _ _ _ _ _ us hl => match us, hl with | [_], _ => rfl) (fun cdv A outer s H vs Q E hr hg h => ⟨t_law_right K D, PSs.nox ?_, go_law_right hD h⟩)
  have nd := sc_law_right.nd
  have hg := hg rfl
  refine pss_cons (L2N.ps_try_as (i := 2) (tb := fun W => tAsg (tCallS (sp_untoldX K D) (WE W) (tCons (tVar 0) tNil)) (gName 1)) (ts := s_right K D) (Wout := fun _ _ _ _ => False) rfl rfl nd rfl rfl ⟨rfl, by decide, .inl mD⟩ takesN (fun W pn xe tk hp => pss_one (ps_set (i := 1) nd rfl (Or.inl rfl) (pe_clS C_untold (hr.mono (by decide)) (fun z => Bool.noConfusion z) (L2N.passAt tk) rfl (pa_cons (pv 0) pa_nil)))) (fun a oe cls dd pn hz hf => ?_))
    (pss_one (ps_ret (pe_and (pe_cl C_law_reads (hr.mono (by decide)) (fun z => Bool.noConfusion z) passF rfl (pa_cons (pv 0) pa_nil)) (pe_one (pe_cl C_law_same (hr.mono (by decide)) (fun _ => hg) passF rfl (pa_cons (pv 0) (pa_cons (pe_cl C_told (hr.mono (by decide)) (fun z => Bool.noConfusion z) passF rfl (pa_cons (pv 1) pa_nil)) pa_nil)))))))
  obtain ⟨vs0, hd⟩ := hf
  have hot : ∀ {Y : Cx}, HotC (Y.suite a ((a, oe) :: pn)) := ⟨(a, oe), ⟨rfl, vs0, hd, hz.2.2 vs0 hd⟩, List.mem_cons_self⟩
  have hrh : RoomH 8 ((A.deeper (envOfC "_law_right" (defScope s_law_right) s.heap.objs.size f cdv)).mark (some (.ref a))) := ⟨hr.dp, hr.un⟩
  have ps0 : ∀ {Y : Cx} (σ : L2.St), PassesAt (L2N.CX Y.prog Y.w) Y σ E0 := fun σ pins H s e s' I c => passF pins σ H s e s' I c
  exact pss_cons (ps_if (PW.pt (pw_or (pt_truth (pe_clH H_law_reads (hrh.mono (by decide)) hot ps0 rfl (pa_cons (pv 0) pa_nil)) (by intro _; rfl)) (pw_or1 (pt_not (pt_truth (pe_clH H_law_same (hrh.mono (by decide)) hot ps0 rfl (pa_cons (pv 0) (pa_cons (pe_xf xf n1 hz.zc ⟨vs0, hd⟩ (pv 2)) pa_nil))) (by intro _; rfl)))))) (pss_one (ps_ret pe_bl)) pss_nil) (pss_one (ps_ret (pe_and (pe_callB call_isi rfl B.b_isinstance (by decide +kernel) (pa_cons (pe_xf xf n2 hz.zc ⟨vs0, hd⟩ (pv 2)) (pa_cons (pe_bltn (v := .ty "int") (u := .type "int") rfl B.b_int (by decide +kernel) rfl) pa_nil))) (pe_and (pe_not (pe_callB call_isi rfl B.b_isinstance (by decide +kernel) (pa_cons (pe_xf xf n2 hz.zc ⟨vs0, hd⟩ (pv 2)) (pa_cons (pe_bltn (v := .ty "bool") (u := .type "bool") rfl B.b_bool (by decide +kernel) rfl) pa_nil)))) (pe_one (pe_chain op_le op_le pe_int (pe_xf xf n2 hz.zc ⟨vs0, hd⟩ (pv 2)) (pe_callB call_lenP rfl B.b_len (by decide +kernel) (pa_cons (pv 0) pa_nil))))))))
end
end Mh
namespace Mh
open PySem PySem.Spec PyProof.Rows L2 TL
theorem never_N {P : Program} {w : World} {H : Hp} {s : Shared} {e : Value} {s' : Shared} (c : L2N.CX P w [] H s (fun _ _ _ => False) e s') : False := by
  obtain ⟨_, _, _, _, _, _, _, _, _, _, _, _, z⟩ := c
  exact z.elim
theorem walk_gN {l : PySem.W.OpenLaw} {n k : Nat} {g : Bool} {q : Program} {loose : List Str} {XP : (Str → Option Value) → Heap → Prop} {YP : World → Heap → Prop} {d : DefRec} {x : Str} (most : l.most = some n) (short : n ≤ sizeLine) (plain : d.params.defaults = []) (room : Room k callerA)
    (F : ∀ (w : World) (mg : Str → Option Value) (fa : Addr) (h : Heap), YP w h → h.Ns mainGlobals mg → mg d.name = some (.ref fa) →
      ∃ (K : PySem.W.Frag) (fd : FuncData) (sp : Sp), K.In h ∧ (∀ (s : Shared) (u : Value), BindsTo s fd ⟨[u], []⟩ [(x, u)]) ∧
        (∀ (H : Hp) (a : Addr) (ns : List Int), ns.length ≤ n → (∀ z ∈ ns, Builtin.Int.intBits z ≤ 1048576) → Only H → SqL K H a (ns.map V.int) → sp [.ref a] H (fun v _ => v = .bl true) fun _ _ _ => False) ∧
        ∀ base : Heap, K.In base → base.Ns mainGlobals mg → FnG l.prog w K mg base (L2N.CX l.prog w) g k fa fd [x] sp) : PySem.W.WalkO q loose XP YP l.row.toRowW d [] (fun f vs => PySem.call f vs) :=
  Att.attach_callB most plain fun w s₀ s₁ mg mb fa o pm cd doc a vs ns G Y _ _ _ isF scr are len bits noGen => by
    obtain ⟨K, fd, sp, stands, bind, prom, hF⟩ := F w mg fa _ Y G.T.g isF
    exact law_runs stands G.T.g G.T.b G.T.builtins G.T.nolimit noGen scr are (Nat.le_trans len short) room hF bind (fun H only seq => prom H a ns len bits only seq) fun H e s' c => never_N c
end Mh
namespace Mh
open PySem PySem.Spec PyProof.Rows L2
/-! the head: facts by names, the run -/
def d_is_figure : He.DefD := ⟨("is_figure", none), "is_figure", "is_figure", defArgs s_is_figure, defBody s_is_figure, defScope s_is_figure, [], []⟩
def d_figures_end : He.DefD := ⟨("figures_end", none), "figures_end", "figures_end", defArgs s_figures_end, defBody s_figures_end, defScope s_figures_end, [], []⟩
def d_are_figures : He.DefD := ⟨("are_figures", none), "are_figures", "are_figures", defArgs s_are_figures, defBody s_are_figures, defScope s_are_figures, [], []⟩
def d_number_of : He.DefD := ⟨("number_of", none), "number_of", "number_of", defArgs s_number_of, defBody s_number_of, defScope s_number_of, [], []⟩
def d_atom_text : He.DefD := ⟨("atom_text", none), "atom_text", "atom_text", defArgs s_atom_text, defBody s_atom_text, defScope s_atom_text, [], []⟩
def d_text_of : He.DefD := ⟨("text_of", none), "text_of", "text_of", defArgs s_text_of, defBody s_text_of, defScope s_text_of, [], []⟩
def d_is_letter : He.DefD := ⟨("is_letter", none), "is_letter", "is_letter", defArgs s_is_letter, defBody s_is_letter, defScope s_is_letter, [], []⟩
def d_string_at : He.DefD := ⟨("string_at", none), "string_at", "string_at", defArgs s_string_at, defBody s_string_at, defScope s_string_at, [], []⟩
def d_number_at : He.DefD := ⟨("number_at", none), "number_at", "number_at", defArgs s_number_at, defBody s_number_at, defScope s_number_at, [], []⟩
def d_atom_at : He.DefD := ⟨("atom_at", none), "atom_at", "atom_at", defArgs s_atom_at, defBody s_atom_at, defScope s_atom_at, [], []⟩
def d_value_of : He.DefD := ⟨("value_of", none), "value_of", "value_of", defArgs s_value_of, defBody s_value_of, defScope s_value_of, [], []⟩
def d_told : He.DefD := ⟨("told", none), "told", "told", defArgs s_told, defBody s_told, defScope s_told, [], []⟩
def d_untold : He.DefD := ⟨("untold", none), "untold", "untold", defArgs s_untold, defBody s_untold, defScope s_untold, [], []⟩
def d_law_box : He.DefD := ⟨("_law_box", none), "_law_box", "_law_box", defArgs s_law_box, defBody s_law_box, defScope s_law_box, [], []⟩
def d_law_draw : He.DefD := ⟨("_law_draw", none), "_law_draw", "_law_draw", defArgs s_law_draw, defBody s_law_draw, defScope s_law_draw, [], []⟩
def d_law_same : He.DefD := ⟨("_law_same", none), "_law_same", "_law_same", defArgs s_law_same, defBody s_law_same, defScope s_law_same, [], []⟩
def d_law_reads : He.DefD := ⟨("_law_reads", none), "_law_reads", "_law_reads", defArgs s_law_reads, defBody s_law_reads, defScope s_law_reads, [], []⟩
def d_law_text : He.DefD := ⟨("_law_text", none), "_law_text", "_law_text", defArgs s_law_text, defBody s_law_text, defScope s_law_text, [], []⟩
def d_law_bent : He.DefD := ⟨("_law_bent", none), "_law_bent", "_law_bent", defArgs s_law_bent, defBody s_law_bent, defScope s_law_bent, [], []⟩
def d_law_right : He.DefD := ⟨("_law_right", none), "_law_right", "_law_right", defArgs s_law_right, defBody s_law_right, defScope s_law_right, [], []⟩
def d_law_all : He.DefD := ⟨("_law_all", none), "_law_all", "_law_all", defArgs s_law_all, defBody s_law_all, defScope s_law_all, [], []⟩
def d_law : He.DefD := ⟨("law", none), "law", "law", defArgs s_law, defBody s_law, defScope s_law, [], []⟩
def fnL : List He.DefD := [d_is_figure, d_figures_end, d_are_figures, d_number_of, d_atom_text, d_text_of, d_is_letter, d_string_at, d_number_at, d_atom_at, d_value_of, d_told, d_untold, d_law_box, d_law_draw, d_law_same, d_law_reads, d_law_text, d_law_bent, d_law_right, d_law_all, d_law]
def faL : List He.Fa := [.glo "is_figure", .glo "figures_end", .glo "are_figures", .glo "number_of", .glo "atom_text", .glo "text_of", .glo "is_letter", .glo "string_at", .glo "number_at", .glo "atom_at", .glo "value_of", .glo "told", .glo "untold", .glo "_law_box", .glo "_law_draw", .glo "_law_same", .glo "_law_reads", .glo "_law_text", .glo "_law_bent", .glo "_law_right", .glo "_law_all", .glo "law", .free "abs", .free "bool", .free "int", .free "isinstance", .free "len", .free "list", .free "max", .free "min", .free "range", .free "repr", .free "reversed", .free "str", .free "super", .free "tuple", .int "DEEPEST" 60, .str "FIGURES" "0123456789", .str "LETTERS" "abcdefghijklmnopqrstuvwxyz", .int "MOST_FIGURES" 40, .str "NOTHING" "-", .str "QUOTE" "\"", .glo "HallError"]
abbrev hkL : PySem.W.Hook := hookE PP 50 faL fnL [iT]
def obL (s : PySem.W.SharedT) : AlE := obsE PP 50 faL fnL [iT] (HandSHeadRun.getT s)
theorem ob_eqL (s : PySem.W.SharedT) : obL s = hkL.obs s.abs := obsE_eq (HandSHeadRun.getT_eq s)
def looseL : List Str := (["FIGURES", "is_figure", "figures_end", "are_figures", "number_of", "HallError", "InvalidText", "LETTERS", "QUOTE", "NOTHING", "DEEPEST", "MOST_FIGURES", "atom_text", "text_of", "is_letter", "string_at", "number_at", "atom_at", "value_of", "told"] : List Str) ++ (["untold", "_law_box", "_law_draw", "_law_same", "_law_reads", "_law_text", "_law_bent", "_law_right", "_law_all"] : List Str)
theorem runL (w : World) : HandSHeadRun.RunEq RW (PySem.W.view RW.prog [34]) hkL obL 4000 looseL w := by
  intro os
  kernel_rfl
theorem bi_of {K : PySem.W.Frag} {h : Heap} {mg : Str → Option Value} (X : K.In h) (G : h.Ns mainGlobals mg) (c : He.SaysD faL fnL K) : Bi mg where
  b_abs := He.free_ok X G (c.fact 22 (f := .free "abs") rfl)
  b_bool := He.free_ok X G (c.fact 23 (f := .free "bool") rfl)
  b_int := He.free_ok X G (c.fact 24 (f := .free "int") rfl)
  b_isinstance := He.free_ok X G (c.fact 25 (f := .free "isinstance") rfl)
  b_len := He.free_ok X G (c.fact 26 (f := .free "len") rfl)
  b_list := He.free_ok X G (c.fact 27 (f := .free "list") rfl)
  b_max := He.free_ok X G (c.fact 28 (f := .free "max") rfl)
  b_min := He.free_ok X G (c.fact 29 (f := .free "min") rfl)
  b_range := He.free_ok X G (c.fact 30 (f := .free "range") rfl)
  b_repr := He.free_ok X G (c.fact 31 (f := .free "repr") rfl)
  b_reversed := He.free_ok X G (c.fact 32 (f := .free "reversed") rfl)
  b_str := He.free_ok X G (c.fact 33 (f := .free "str") rfl)
  b_tuple := He.free_ok X G (c.fact 35 (f := .free "tuple") rfl)
  x_HallError := ⟨_, He.glo_ok X G (c.fact 42 (f := .glo "HallError") rfl)⟩
  c_DEEPEST := He.int_ok X G (c.fact 36 (f := .int "DEEPEST" 60) rfl)
  c_FIGURES := He.str_ok X G (c.fact 37 (f := .str "FIGURES" "0123456789") rfl)
  c_LETTERS := He.str_ok X G (c.fact 38 (f := .str "LETTERS" "abcdefghijklmnopqrstuvwxyz") rfl)
  c_MOST_FIGURES := He.int_ok X G (c.fact 39 (f := .int "MOST_FIGURES" 40) rfl)
  c_NOTHING := He.str_ok X G (c.fact 40 (f := .str "NOTHING" "-") rfl)
  c_QUOTE := He.str_ok X G (c.fact 41 (f := .str "QUOTE" "\"") rfl)
theorem factsL {w : World} {K : PySem.W.Frag} {h : Heap} {mg : Str → Option Value} {f : Addr} (X : K.In h) (G : h.Ns mainGlobals mg) (hfa : mg ("law" : Str) = some (.ref f)) (cE : obsK PP faL fnL [iT] K = valE fnL [iT]) :
    ∃ fd : FuncData, (∀ (s : Shared) (u : Value), BindsTo s fd ⟨[u], []⟩ [("script", u)]) ∧ ∀ base : Heap, K.In base → base.Ns mainGlobals mg → FnG PP w K mg base (L2N.CX PP w) true 11 f fd ["script"] (sp_law K) := by
  obtain ⟨c, cI⟩ := saysE cE
  have B : Bi mg := bi_of X G c
  obtain ⟨i1, i2⟩ := cI 0 iT rfl
  unfold iniB2 iniX at i1
  simp only [Bool.and_eq_true] at i1
  obtain ⟨i1, ixf, iex⟩ := i1
  obtain ⟨_, _, _, iGl, inf⟩ := ini_ok i1 i2
  have n1 : PySem.W.findIn K (.ref (He.ga K "InvalidText")) "text" = some none := inf "text" List.mem_cons_self
  have n2 : PySem.W.findIn K (.ref (He.ga K "InvalidText")) "at" = some none := inf "at" (List.mem_cons_of_mem _ List.mem_cons_self)
  have mD : mg "InvalidText" = some (.ref (He.ga K "InvalidText")) := PySem.W.mg_of X G iGl
  have iex : PySem.W.exmOne K (.ref (He.ga K "InvalidText")) (.ref (He.ga K "InvalidText")) = some true := of_decide_eq_true iex
  have sf : mg "super" = none := He.free_ok X G (c.fact 34 (f := .free "super") rfl)
  obtain ⟨a_is_figure, F_is_figure⟩ := c.def_ 0 (d := d_is_figure) rfl
  have m_is_figure := He.glo_ok X G (c.fact 0 (f := .glo "is_figure") rfl)
  obtain ⟨a_figures_end, F_figures_end⟩ := c.def_ 1 (d := d_figures_end) rfl
  have m_figures_end := He.glo_ok X G (c.fact 1 (f := .glo "figures_end") rfl)
  obtain ⟨a_are_figures, F_are_figures⟩ := c.def_ 2 (d := d_are_figures) rfl
  have m_are_figures := He.glo_ok X G (c.fact 2 (f := .glo "are_figures") rfl)
  obtain ⟨a_number_of, F_number_of⟩ := c.def_ 3 (d := d_number_of) rfl
  have m_number_of := He.glo_ok X G (c.fact 3 (f := .glo "number_of") rfl)
  obtain ⟨a_atom_text, F_atom_text⟩ := c.def_ 4 (d := d_atom_text) rfl
  have m_atom_text := He.glo_ok X G (c.fact 4 (f := .glo "atom_text") rfl)
  obtain ⟨a_text_of, F_text_of⟩ := c.def_ 5 (d := d_text_of) rfl
  have m_text_of := He.glo_ok X G (c.fact 5 (f := .glo "text_of") rfl)
  obtain ⟨a_is_letter, F_is_letter⟩ := c.def_ 6 (d := d_is_letter) rfl
  have m_is_letter := He.glo_ok X G (c.fact 6 (f := .glo "is_letter") rfl)
  obtain ⟨a_string_at, F_string_at⟩ := c.def_ 7 (d := d_string_at) rfl
  have m_string_at := He.glo_ok X G (c.fact 7 (f := .glo "string_at") rfl)
  obtain ⟨a_number_at, F_number_at⟩ := c.def_ 8 (d := d_number_at) rfl
  have m_number_at := He.glo_ok X G (c.fact 8 (f := .glo "number_at") rfl)
  obtain ⟨a_atom_at, F_atom_at⟩ := c.def_ 9 (d := d_atom_at) rfl
  have m_atom_at := He.glo_ok X G (c.fact 9 (f := .glo "atom_at") rfl)
  obtain ⟨a_value_of, F_value_of⟩ := c.def_ 10 (d := d_value_of) rfl
  have m_value_of := He.glo_ok X G (c.fact 10 (f := .glo "value_of") rfl)
  obtain ⟨a_told, F_told⟩ := c.def_ 11 (d := d_told) rfl
  have m_told := He.glo_ok X G (c.fact 11 (f := .glo "told") rfl)
  obtain ⟨a_untold, F_untold⟩ := c.def_ 12 (d := d_untold) rfl
  have m_untold := He.glo_ok X G (c.fact 12 (f := .glo "untold") rfl)
  obtain ⟨a_law_box, F_law_box⟩ := c.def_ 13 (d := d_law_box) rfl
  have m_law_box := He.glo_ok X G (c.fact 13 (f := .glo "_law_box") rfl)
  obtain ⟨a_law_draw, F_law_draw⟩ := c.def_ 14 (d := d_law_draw) rfl
  have m_law_draw := He.glo_ok X G (c.fact 14 (f := .glo "_law_draw") rfl)
  obtain ⟨a_law_same, F_law_same⟩ := c.def_ 15 (d := d_law_same) rfl
  have m_law_same := He.glo_ok X G (c.fact 15 (f := .glo "_law_same") rfl)
  obtain ⟨a_law_reads, F_law_reads⟩ := c.def_ 16 (d := d_law_reads) rfl
  have m_law_reads := He.glo_ok X G (c.fact 16 (f := .glo "_law_reads") rfl)
  obtain ⟨a_law_text, F_law_text⟩ := c.def_ 17 (d := d_law_text) rfl
  have m_law_text := He.glo_ok X G (c.fact 17 (f := .glo "_law_text") rfl)
  obtain ⟨a_law_bent, F_law_bent⟩ := c.def_ 18 (d := d_law_bent) rfl
  have m_law_bent := He.glo_ok X G (c.fact 18 (f := .glo "_law_bent") rfl)
  obtain ⟨a_law_right, F_law_right⟩ := c.def_ 19 (d := d_law_right) rfl
  have m_law_right := He.glo_ok X G (c.fact 19 (f := .glo "_law_right") rfl)
  obtain ⟨a_law_all, F_law_all⟩ := c.def_ 20 (d := d_law_all) rfl
  have m_law_all := He.glo_ok X G (c.fact 20 (f := .glo "_law_all") rfl)
  obtain ⟨a_law, F_law⟩ := c.def_ 21 (d := d_law) rfl
  have m_law := He.glo_ok X G (c.fact 21 (f := .glo "law") rfl)
  have e := hfa.symm.trans m_law
  cases e
  have b := FunD.bindsA (ps := ["script"]) F_law fun _ _ _ _ _ _ us hl => match us, hl with | [_], _ => rfl
  refine ⟨a_law, fun s v => b s [v] rfl, fun base _ _ => ?_⟩
  have R := rz_text (w := w) (base := base) X G i1 i2 sf
  have C_is_figure := ok_is_figure (P := PP) (w := w) (K := K) (mg := mg) (base := base) F_is_figure m_is_figure B 
  have C_figures_end := ok_figures_end (P := PP) (w := w) (K := K) (mg := mg) (base := base) F_figures_end m_figures_end B C_is_figure
  have C_are_figures := ok_are_figures (P := PP) (w := w) (K := K) (mg := mg) (base := base) F_are_figures m_are_figures B C_figures_end
  have C_number_of := ok_number_of (P := PP) (w := w) (K := K) (mg := mg) (base := base) F_number_of m_number_of B C_are_figures
  have C_atom_text := ok_atom_text (P := PP) (w := w) (K := K) (mg := mg) (base := base) F_atom_text m_atom_text B 
  have C_text_of := ok_text_of (P := PP) (w := w) (K := K) (mg := mg) (base := base) F_text_of m_text_of B C_atom_text
  have C_is_letter := ok_is_letter (P := PP) (w := w) (K := K) (mg := mg) (base := base) F_is_letter m_is_letter B 
  have C_string_at := ok_string_at (P := PP) (w := w) (K := K) (mg := mg) (base := base) F_string_at m_string_at B C_is_letter R
  have C_number_at := ok_number_at (P := PP) (w := w) (K := K) (mg := mg) (base := base) F_number_at m_number_at B C_figures_end C_number_of R
  have C_atom_at := ok_atom_at (P := PP) (w := w) (K := K) (mg := mg) (base := base) F_atom_at m_atom_at B C_is_figure C_number_at C_string_at R
  have C_value_of := ok_value_of (P := PP) (w := w) (K := K) (mg := mg) (base := base) F_value_of m_value_of B C_atom_at R
  have C_told := ok_told (P := PP) (w := w) (K := K) (mg := mg) (base := base) F_told m_told B C_text_of
  have C_untold := ok_untold (P := PP) (w := w) (K := K) (mg := mg) (base := base) F_untold m_untold B C_value_of R
  have C_law_box := ok_law_box (P := PP) (w := w) (K := K) (mg := mg) (base := base) F_law_box m_law_box B 
  have C_law_draw := ok_law_draw (P := PP) (w := w) (K := K) (mg := mg) (base := base) F_law_draw m_law_draw B 
  have C_law_same := ok_law_same (P := PP) (w := w) (K := K) (mg := mg) (base := base) F_law_same m_law_same B 
  have C_law_reads := ok_law_reads (P := PP) (w := w) (K := K) (mg := mg) (base := base) F_law_reads m_law_reads B 
  have C_law_text := ok_law_text (P := PP) (w := w) (K := K) (mg := mg) (base := base) F_law_text m_law_text B C_law_draw
  have C_law_bent := ok_law_bent (P := PP) (w := w) (K := K) (mg := mg) (base := base) F_law_bent m_law_bent B C_law_draw
  have H_law_reads := hk_law_reads (P := PP) (w := w) (K := K) (mg := mg) (base := base) F_law_reads m_law_reads B
  have H_law_same := hk_law_same (P := PP) (w := w) (K := K) (mg := mg) (base := base) F_law_same m_law_same B
  have C_law_right := ok_law_right (P := PP) (w := w) (K := K) (mg := mg) (base := base) (D := He.ga K "InvalidText") iex (xfB_ok ixf) n1 n2 mD F_law_right m_law_right B C_law_reads C_law_same C_told C_untold H_law_reads H_law_same
  have C_law_all := ok_law_all (P := PP) (w := w) (K := K) (mg := mg) (base := base) F_law_all m_law_all B C_law_bent C_law_box C_law_draw C_law_reads C_law_right C_law_text
  exact okF_law (P := PP) (w := w) (K := K) (mg := mg) (base := base) F_law m_law B C_law_all
end Mh
open PySem PySem.W PySem.Calls PyProof.Rows
theorem PySem.Challenge.cw_mendinghalls_k81_untold_refused_holds : PySem.Challenge.rw_mendinghalls_k81_untold_refused.Holds := by
  w_on; o_law
  refine HandSHeadRun.head_any (r := OpenLaw.row PySem.Challenge.rw_mendinghalls_k81_untold_refused) (q := view (OpenLaw.row PySem.Challenge.rw_mendinghalls_k81_untold_refused).prog [34]) (H := Mh.hkL) (ob := Mh.obL) (M := 4000) (loose := Mh.looseL) (d := HandSHeadRun.topDef (OpenLaw.row PySem.Challenge.rw_mendinghalls_k81_untold_refused).prog 34) (kwd := []) Mh.ob_eqL
    (by kernel_rfl) (fun s => by kernel_rfl) Mh.runL (by kernel_rfl) (by kernel_rfl) (by kernel_rfl) (by rfl) (by first | assumption | decide +kernel) (by decide +kernel) ⟨rfl, rfl, rfl, rfl, rfl, by decide +kernel⟩ ?hw ?hc
  case hw => w_witness2
  case hc =>
    refine Mh.walk_gN (l := PySem.Challenge.rw_mendinghalls_k81_untold_refused) (n := 63) (g := true) (k := 11) (x := "script") rfl (by decide) (by kernel_rfl) ⟨rfl, by decide, by decide⟩ ?F
    intro w mg fa h Y G hmg0
    obtain ⟨K, KX, c⟩ := Y
    have hmg : mg ("law" : PySem.Str) = some (.ref fa) := by
      have e : (HandSHeadRun.topDef (OpenLaw.row PySem.Challenge.rw_mendinghalls_k81_untold_refused).prog 34).name = ("law" : PySem.Str) := by kernel_rfl
      rw [← e]
      exact hmg0
    obtain ⟨fd, hb, hF⟩ := Mh.factsL (w := w) KX G hmg c
    exact ⟨K, fd, Mh.sp_law K, KX, hb, fun H a ns hl _ _ hS => ⟨a, ns, rfl, hS, fun _ => rfl⟩, hF⟩

