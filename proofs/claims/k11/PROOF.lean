import PyProof.Rows.All
import Wide.All
import OpenK.AllK
import Wide.FinOn
import HandS.ForMost
import HandS.ForExc
import KE.GoesEnum
import HandS.Zip
import HandS.TupAny
import HandS.TupMul
import HandS.TupLe
import HandS.IsInst
import HandS.Deep
import HandS.SetFor
import HandS.SortInts
import HandS.Conv
import KE.KIndexOf
import KE.KTupSum
import HandS.FStr
import HandS.GenList
import HandS.Style
import KE.DataMinMax
import KE.KDictPairs
import HandS.TupSets
import KE.SortData
import HandS.Iter
import PySem.Challenge.RW_strokeholes_k11_results_of_groups
set_option Elab.async false
set_option linter.all false
set_option maxRecDepth 100000
set_option maxHeartbeats 4000000
/-! DL1: data by value over the abstract heap: data D, what a value stands for (Rp), slots that hold data (Ok), what an evaluation may change (Ext) -/
namespace DL
open PySem PySem.Spec PyProof.Rows L2

/-- a datum -/
inductive D where
  | non | bl (b : Bool) | int (i : Int) | str (x : Str)
  | tup (xs : List D) | lst (xs : List D)
  | dK (ks : List Key) (ds : List D) | dT (ks : List (List Key)) (ds : List D) | dF (ks : List Key) (ds : List D) | fl (ds : List D)
  | ins (c : Nat) (fs : List Str) (ds : List D)
  | fn (n : Nat) | ty (n : String)

/-- addresses of own classes and functions by numbers -/
structure Tab where
  cls : Nat → Addr
  fn : Nat → Addr

/-- a tuple at a: its object has no dict of its own -/
def SqN (K : PySem.W.Frag) (F : Hp) (a : Addr) (vs : List V) : Prop :=
  (∃ o, F a = some (.frz o (.tup vs)) ∧ o.dict = none) ∨ ∃ (o : Obj) (its : Array Value) (n : Nat), K.lookup a = some o ∧ o.dict = none ∧ o.cls = .type "tuple" ∧ o.data = .seq its n ∧ its.size ≤ sizeLine ∧ Vals vs its.toList
theorem SqN.t {K : PySem.W.Frag} {F : Hp} {a : Addr} {vs : List V} (h : SqN K F a vs) : SqT K F a vs := by
  rcases h with ⟨o, h, _⟩ | ⟨o, its, n, h1, _, h2, h3, h4, h5⟩
  · exact .inl (.inr ⟨o, h⟩)
  · exact .inr ⟨o, its, n, h1, h2, h3, h4, h5⟩
theorem SqN.mono {K : PySem.W.Frag} {F F' : Hp} (s : Same F F') {a : Addr} {vs : List V} (h : SqN K F a vs) : SqN K F' a vs := by
  rcases h with ⟨o, h, hd⟩ | h
  · exact .inl ⟨o, s _ _ h, hd⟩
  · exact .inr h

mutual
def Rp (K : PySem.W.Frag) (T : Tab) (F : Hp) : D → V → Prop
  | .non, v => v = .non
  | .bl b, v => v = .bl b
  | .int i, v => v = .int i
  | .str x, v => v = .str x
  | .tup ds, v => ∃ a vs, v = .ref a ∧ SqN K F a vs ∧ Rps K T F ds vs
  | .lst ds, v => ∃ a vs, v = .ref a ∧ SqL K F a vs ∧ Rps K T F ds vs
  | .dK ks ds, v => ∃ a vs, v = .ref a ∧ Rd F a (.dK (ks.zip vs)) ∧ ks.length = ds.length ∧ Rps K T F ds vs
  | .dT ks ds, v => ∃ a vs, v = .ref a ∧ Rd F a (.dT (ks.zip vs)) ∧ ks.length = ds.length ∧ Rps K T F ds vs
  | .dF ks ds, v => ∃ a o vs, v = .ref a ∧ F a = some (.frz o (.dK (ks.zip vs))) ∧ ks.length = ds.length ∧ Rps K T F ds vs
  | .fl ds, v => ∃ a vs, v = .ref a ∧ F a = some (.lst vs) ∧ Rps K T F ds vs
  | .ins c fs ds, v => ∃ a dx vs, v = .ref a ∧ F a = some (.ins (T.cls c) dx (fs.zip vs)) ∧ fs.length = ds.length ∧ Rps K T F ds vs
  | .fn n, v => v = .ref (T.fn n)
  | .ty n, v => v = .ty n
def Rps (K : PySem.W.Frag) (T : Tab) (F : Hp) : List D → List V → Prop
  | [], vs => vs = []
  | d :: ds, vs => ∃ v r, vs = v :: r ∧ Rp K T F d v ∧ Rps K T F ds r
end

theorem rd_mono {F F' : Hp} (s : Same F F') {a : Addr} {u : HO} (h : Rd F a u) : Rd F' a u := by
  rcases h with h | ⟨o, h⟩
  · exact .inl (s _ _ h)
  · exact .inr ⟨o, s _ _ h⟩
theorem sqT_mono {K : PySem.W.Frag} {F F' : Hp} (s : Same F F') {a : Addr} {xs : List V} (h : SqT K F a xs) : SqT K F' a xs := by
  rcases h with h | h
  · exact .inl (rd_mono s h)
  · exact .inr h
theorem sqL_mono {K : PySem.W.Frag} {F F' : Hp} (s : Same F F') {a : Addr} {xs : List V} (h : SqL K F a xs) : SqL K F' a xs := s.seq h

mutual
theorem Rp.mono {K : PySem.W.Frag} {T : Tab} {F F' : Hp} (s : Same F F') : ∀ (d : D) (v : V), Rp K T F d v → Rp K T F' d v
  | .non, v, h => by unfold Rp at h ⊢; exact h
  | .bl b, v, h => by unfold Rp at h ⊢; exact h
  | .int i, v, h => by unfold Rp at h ⊢; exact h
  | .str x, v, h => by unfold Rp at h ⊢; exact h
  | .tup ds, v, h => by
    unfold Rp at h ⊢
    obtain ⟨a, vs, e, q, r⟩ := h
    exact ⟨a, vs, e, q.mono s, Rps.mono s ds vs r⟩
  | .lst ds, v, h => by
    unfold Rp at h ⊢
    obtain ⟨a, vs, e, q, r⟩ := h
    exact ⟨a, vs, e, sqL_mono s q, Rps.mono s ds vs r⟩
  | .dK ks ds, v, h => by
    unfold Rp at h ⊢
    obtain ⟨a, vs, e, q, l, r⟩ := h
    exact ⟨a, vs, e, rd_mono s q, l, Rps.mono s ds vs r⟩
  | .dT ks ds, v, h => by
    unfold Rp at h ⊢
    obtain ⟨a, vs, e, q, l, r⟩ := h
    exact ⟨a, vs, e, rd_mono s q, l, Rps.mono s ds vs r⟩
  | .dF ks ds, v, h => by
    unfold Rp at h ⊢
    obtain ⟨a, o, vs, e, q, l, r⟩ := h
    exact ⟨a, o, vs, e, s _ _ q, l, Rps.mono s ds vs r⟩
  | .fl ds, v, h => by
    unfold Rp at h ⊢
    obtain ⟨a, vs, e, q, r⟩ := h
    exact ⟨a, vs, e, s _ _ q, Rps.mono s ds vs r⟩
  | .ins c fs ds, v, h => by
    unfold Rp at h ⊢
    obtain ⟨a, dx, vs, e, q, l, r⟩ := h
    exact ⟨a, dx, vs, e, s _ _ q, l, Rps.mono s ds vs r⟩
  | .fn n, v, h => by unfold Rp at h ⊢; exact h
  | .ty n, v, h => by unfold Rp at h ⊢; exact h
theorem Rps.mono {K : PySem.W.Frag} {T : Tab} {F F' : Hp} (s : Same F F') : ∀ (ds : List D) (vs : List V), Rps K T F ds vs → Rps K T F' ds vs
  | [], vs, h => by unfold Rps at h ⊢; exact h
  | d :: ds, vs, h => by
    unfold Rps at h ⊢
    obtain ⟨v, r, e, h1, h2⟩ := h
    exact ⟨v, r, e, Rp.mono s d v h1, Rps.mono s ds r h2⟩
end

section
variable {K : PySem.W.Frag} {T : Tab} {F : Hp}
theorem rp_non {v : V} : Rp K T F .non v ↔ v = .non := by unfold Rp; exact Iff.rfl
theorem rp_bl {b : Bool} {v : V} : Rp K T F (.bl b) v ↔ v = .bl b := by unfold Rp; exact Iff.rfl
theorem rp_int {i : Int} {v : V} : Rp K T F (.int i) v ↔ v = .int i := by unfold Rp; exact Iff.rfl
theorem rp_str {x : Str} {v : V} : Rp K T F (.str x) v ↔ v = .str x := by unfold Rp; exact Iff.rfl
theorem rp_fn {n : Nat} {v : V} : Rp K T F (.fn n) v ↔ v = .ref (T.fn n) := by unfold Rp; exact Iff.rfl
theorem rp_ty {n : String} {v : V} : Rp K T F (.ty n) v ↔ v = .ty n := by unfold Rp; exact Iff.rfl
theorem rp_tup {ds : List D} {v : V} : Rp K T F (.tup ds) v ↔ ∃ a vs, v = .ref a ∧ SqN K F a vs ∧ Rps K T F ds vs := by unfold Rp; exact Iff.rfl
theorem rp_tupT {ds : List D} {v : V} (h : Rp K T F (.tup ds) v) : ∃ a vs, v = .ref a ∧ SqT K F a vs ∧ Rps K T F ds vs := let ⟨a, vs, e, q, r⟩ := rp_tup.mp h; ⟨a, vs, e, q.t, r⟩
theorem rp_lst {ds : List D} {v : V} : Rp K T F (.lst ds) v ↔ ∃ a vs, v = .ref a ∧ SqL K F a vs ∧ Rps K T F ds vs := by unfold Rp; exact Iff.rfl
theorem rp_dK {ks : List Key} {ds : List D} {v : V} : Rp K T F (.dK ks ds) v ↔ ∃ a vs, v = .ref a ∧ Rd F a (.dK (ks.zip vs)) ∧ ks.length = ds.length ∧ Rps K T F ds vs := by unfold Rp; exact Iff.rfl
theorem rp_dT {ks : List (List Key)} {ds : List D} {v : V} : Rp K T F (.dT ks ds) v ↔ ∃ a vs, v = .ref a ∧ Rd F a (.dT (ks.zip vs)) ∧ ks.length = ds.length ∧ Rps K T F ds vs := by unfold Rp; exact Iff.rfl
theorem rp_fl {ds : List D} {v : V} : Rp K T F (.fl ds) v ↔ ∃ a vs, v = .ref a ∧ F a = some (.lst vs) ∧ Rps K T F ds vs := by unfold Rp; exact Iff.rfl
theorem rp_dF {ks : List Key} {ds : List D} {v : V} : Rp K T F (.dF ks ds) v ↔ ∃ a o vs, v = .ref a ∧ F a = some (.frz o (.dK (ks.zip vs))) ∧ ks.length = ds.length ∧ Rps K T F ds vs := by unfold Rp; exact Iff.rfl
theorem rp_ins {c : Nat} {fs : List Str} {ds : List D} {v : V} : Rp K T F (.ins c fs ds) v ↔ ∃ a dx vs, v = .ref a ∧ F a = some (.ins (T.cls c) dx (fs.zip vs)) ∧ fs.length = ds.length ∧ Rps K T F ds vs := by unfold Rp; exact Iff.rfl
theorem rps_nil {vs : List V} : Rps K T F [] vs ↔ vs = [] := by unfold Rps; exact Iff.rfl
theorem rps_cons {d : D} {ds : List D} {vs : List V} : Rps K T F (d :: ds) vs ↔ ∃ v r, vs = v :: r ∧ Rp K T F d v ∧ Rps K T F ds r := by
  constructor
  · intro h; unfold Rps at h; exact h
  · intro h; unfold Rps; exact h
theorem Rps.length : ∀ {ds : List D} {vs : List V}, Rps K T F ds vs → vs.length = ds.length
  | [], vs, h => by rw [rps_nil.mp h]; rfl
  | d :: ds, vs, h => by
    obtain ⟨v, r, e, _, h2⟩ := rps_cons.mp h
    rw [e, List.length_cons, Rps.length h2, List.length_cons]
theorem Rps.get : ∀ {ds : List D} {vs : List V} {i : Nat} {d : D}, Rps K T F ds vs → ds[i]? = some d → ∃ v, vs[i]? = some v ∧ Rp K T F d v
  | [], vs, i, d, h, e => by simp at e
  | d' :: ds, vs, 0, d, h, e => by
    obtain ⟨v, r, ev, h1, _⟩ := rps_cons.mp h
    simp at e; subst e; subst ev
    exact ⟨v, rfl, h1⟩
  | d' :: ds, vs, i + 1, d, h, e => by
    obtain ⟨v, r, ev, _, h2⟩ := rps_cons.mp h
    subst ev
    obtain ⟨v', e1, h3⟩ := Rps.get (i := i) (d := d) h2 (by simpa using e)
    exact ⟨v', by simpa using e1, h3⟩
theorem Rps.get' : ∀ {ds : List D} {vs : List V} {i : Nat} {v : V}, Rps K T F ds vs → vs[i]? = some v → ∃ d, ds[i]? = some d ∧ Rp K T F d v
  | [], vs, i, v, h, e => by rw [rps_nil.mp h] at e; simp at e
  | d' :: ds, vs, 0, v, h, e => by
    obtain ⟨v', r, ev, h1, _⟩ := rps_cons.mp h
    subst ev
    simp at e; subst e
    exact ⟨d', rfl, h1⟩
  | d' :: ds, vs, i + 1, v, h, e => by
    obtain ⟨v', r, ev, _, h2⟩ := rps_cons.mp h
    subst ev
    obtain ⟨d, e1, h3⟩ := Rps.get' (i := i) (v := v) h2 (by simpa using e)
    exact ⟨d, by simpa using e1, h3⟩
theorem Rps.append : ∀ {ds es : List D} {vs us : List V}, Rps K T F ds vs → Rps K T F es us → Rps K T F (ds ++ es) (vs ++ us)
  | [], es, vs, us, h, h' => by rw [rps_nil.mp h]; exact h'
  | d :: ds, es, vs, us, h, h' => by
    obtain ⟨v, r, e, h1, h2⟩ := rps_cons.mp h
    subst e
    exact rps_cons.mpr ⟨v, r ++ us, rfl, h1, Rps.append h2 h'⟩
theorem Rps.take : ∀ {ds : List D} {vs : List V} (n : Nat), Rps K T F ds vs → Rps K T F (ds.take n) (vs.take n)
  | ds, vs, 0, h => by simp; exact rps_nil.mpr rfl
  | [], vs, n + 1, h => by rw [rps_nil.mp h]; simp; exact rps_nil.mpr rfl
  | d :: ds, vs, n + 1, h => by
    obtain ⟨v, r, e, h1, h2⟩ := rps_cons.mp h
    subst e
    exact rps_cons.mpr ⟨v, r.take n, rfl, h1, Rps.take n h2⟩
theorem Rps.drop : ∀ {ds : List D} {vs : List V} (n : Nat), Rps K T F ds vs → Rps K T F (ds.drop n) (vs.drop n)
  | ds, vs, 0, h => h
  | [], vs, n + 1, h => by rw [rps_nil.mp h]; simp; exact rps_nil.mpr rfl
  | d :: ds, vs, n + 1, h => by
    obtain ⟨v, r, e, h1, h2⟩ := rps_cons.mp h
    subst e
    exact Rps.drop n h2
theorem Rps.set : ∀ {ds : List D} {vs : List V} (i : Nat) {d : D} {v : V}, Rps K T F ds vs → Rp K T F d v → Rps K T F (ds.set i d) (vs.set i v)
  | [], vs, i, d, v, h, r => by rw [rps_nil.mp h]; exact rps_nil.mpr rfl
  | d' :: ds, vs, 0, d, v, h, q => by
    obtain ⟨v', r, e, h1, h2⟩ := rps_cons.mp h
    subst e
    exact rps_cons.mpr ⟨v, r, rfl, q, h2⟩
  | d' :: ds, vs, i + 1, d, v, h, q => by
    obtain ⟨v', r, e, h1, h2⟩ := rps_cons.mp h
    subst e
    exact rps_cons.mpr ⟨v', r.set i v, rfl, h1, Rps.set i h2 q⟩
theorem Rps.eraseIdx : ∀ {ds : List D} {vs : List V} (i : Nat), Rps K T F ds vs → Rps K T F (ds.eraseIdx i) (vs.eraseIdx i)
  | [], vs, i, h => by rw [rps_nil.mp h]; exact rps_nil.mpr rfl
  | d' :: ds, vs, 0, h => by
    obtain ⟨v', r, e, h1, h2⟩ := rps_cons.mp h
    subst e
    exact h2
  | d' :: ds, vs, i + 1, h => by
    obtain ⟨v', r, e, h1, h2⟩ := rps_cons.mp h
    subst e
    exact rps_cons.mpr ⟨v', r.eraseIdx i, rfl, h1, Rps.eraseIdx i h2⟩
theorem Rps.one {d : D} {v : V} (h : Rp K T F d v) : Rps K T F [d] [v] := rps_cons.mpr ⟨v, [], rfl, h, rps_nil.mpr rfl⟩
theorem Rps.ints : ∀ (ns : List Int) (vs : List V), Rps K T F (ns.map D.int) vs ↔ vs = ns.map V.int
  | [], vs => by simp only [List.map_nil]; exact rps_nil
  | n :: ns, vs => by
    simp only [List.map_cons]
    rw [rps_cons]
    constructor
    · rintro ⟨v, r, e, h1, h2⟩
      rw [e, rp_int.mp h1, (Rps.ints ns r).mp h2]
    · rintro e
      exact ⟨.int n, ns.map V.int, e, rp_int.mpr rfl, (Rps.ints ns _).mpr rfl⟩
end

/-- an object that stands for a mutable datum -/
def RpO (K : PySem.W.Frag) (T : Tab) (F : Hp) : D → HO → Prop
  | .lst ds, .lst vs => Rps K T F ds vs
  | .dK ks ds, .dK kvs => ∃ vs, kvs = ks.zip vs ∧ ks.length = ds.length ∧ Rps K T F ds vs
  | .dT ks ds, .dT kvs => ∃ vs, kvs = ks.zip vs ∧ ks.length = ds.length ∧ Rps K T F ds vs
  | .ins c fs ds, .ins C _ kvs => C = T.cls c ∧ ∃ vs, kvs = fs.zip vs ∧ fs.length = ds.length ∧ Rps K T F ds vs
  | _, _ => False
theorem RpO.mono {K : PySem.W.Frag} {T : Tab} {F F' : Hp} (s : Same F F') {d : D} {o : HO} (h : RpO K T F d o) : RpO K T F' d o := by
  unfold RpO at h ⊢
  split at h
  · exact Rps.mono s _ _ h
  · obtain ⟨vs, e, l, h⟩ := h; exact ⟨vs, e, l, Rps.mono s _ _ h⟩
  · obtain ⟨vs, e, l, h⟩ := h; exact ⟨vs, e, l, Rps.mono s _ _ h⟩
  · obtain ⟨e0, vs, e, l, h⟩ := h; exact ⟨e0, vs, e, l, Rps.mono s _ _ h⟩
  · exact h.elim
/-- the object read as a value -/
theorem RpO.rp {K : PySem.W.Frag} {T : Tab} {F H : Hp} (s : Same F H) {d : D} {o : HO} {a : Addr} (h : RpO K T F d o) (e : H a = some o) : Rp K T H d (.ref a) := by
  unfold RpO at h
  split at h
  · exact rp_lst.mpr ⟨a, _, rfl, .inl (.inl e), Rps.mono s _ _ h⟩
  · obtain ⟨vs, e', l, h⟩ := h
    subst e'
    exact rp_dK.mpr ⟨a, vs, rfl, .inl e, l, Rps.mono s _ _ h⟩
  · obtain ⟨vs, e', l, h⟩ := h
    subst e'
    exact rp_dT.mpr ⟨a, vs, rfl, .inl e, l, Rps.mono s _ _ h⟩
  · obtain ⟨ec, vs, e', l, h⟩ := h
    subst e' ec
    exact rp_ins.mpr ⟨a, _, vs, rfl, e, l, Rps.mono s _ _ h⟩
  · exact h.elim
theorem rpO_lst {K : PySem.W.Frag} {T : Tab} {F : Hp} {ds : List D} {o : HO} : RpO K T F (.lst ds) o ↔ ∃ vs, o = .lst vs ∧ Rps K T F ds vs := by
  constructor
  · intro h
    cases o with
    | lst vs => exact ⟨vs, rfl, h⟩
    | _ => exact (show False from h).elim
  · rintro ⟨vs, rfl, h⟩
    exact h
theorem rpO_dK {K : PySem.W.Frag} {T : Tab} {F : Hp} {ks : List Key} {ds : List D} {o : HO} : RpO K T F (.dK ks ds) o ↔ ∃ vs, o = .dK (ks.zip vs) ∧ ks.length = ds.length ∧ Rps K T F ds vs := by
  constructor
  · intro h
    cases o with
    | dK kvs => obtain ⟨vs, e, h⟩ := h; exact ⟨vs, by rw [e], h⟩
    | _ => exact (show False from h).elim
  · rintro ⟨vs, rfl, h⟩
    exact ⟨vs, rfl, h⟩
theorem rpO_dT {K : PySem.W.Frag} {T : Tab} {F : Hp} {ks : List (List Key)} {ds : List D} {o : HO} : RpO K T F (.dT ks ds) o ↔ ∃ vs, o = .dT (ks.zip vs) ∧ ks.length = ds.length ∧ Rps K T F ds vs := by
  constructor
  · intro h
    cases o with
    | dT kvs => obtain ⟨vs, e, h⟩ := h; exact ⟨vs, by rw [e], h⟩
    | _ => exact (show False from h).elim
  · rintro ⟨vs, rfl, h⟩
    exact ⟨vs, rfl, h⟩

/-- what a slot holds: nothing that is known, a datum that never changes, an object of its own -/
inductive Sl where
  | no | fz (d : D) | own (d : D)
abbrev En := List Sl

def OwnAt (σ : L2.St) (ε : En) (a : Addr) : Prop := ∃ (i : Nat) (d : D), ε[i]? = some (.own d) ∧ σ[i]? = some (some (.ref a))

structure Ok (K : PySem.W.Frag) (T : Tab) (F H : Hp) (σ : L2.St) (ε : En) : Prop where
  sub : Same F H
  len : σ.length = ε.length
  fz : ∀ (i : Nat) (d : D), ε[i]? = some (.fz d) → ∃ v, σ[i]? = some (some v) ∧ Rp K T F d v
  own : ∀ (i : Nat) (d : D), ε[i]? = some (.own d) → ∃ a o, σ[i]? = some (some (.ref a)) ∧ F a = none ∧ H a = some o ∧ RpO K T F d o
  sep : ∀ (i j : Nat) (d d' : D) (a : Addr), ε[i]? = some (.own d) → ε[j]? = some (.own d') → σ[i]? = some (some (.ref a)) → σ[j]? = some (some (.ref a)) → i = j

/-- what an evaluation may change -/
structure Ext (F H : Hp) (σ : L2.St) (ε : En) (F' H' : Hp) (σ' : L2.St) (ε' : En) : Prop where
  fs : Same F F'
  hk : ∀ a o, H a = some o → ¬ OwnAt σ ε a → H' a = some o
  ht : ∀ a, H' a = none → H a = none
  fn : ∀ a, F' a ≠ none → F a ≠ none ∨ H a = none ∨ OwnAt σ ε a
  on : ∀ a, OwnAt σ' ε' a → OwnAt σ ε a ∨ H a = none

theorem Ext.refl {F H : Hp} {σ : L2.St} {ε : En} : Ext F H σ ε F H σ ε :=
  ⟨Same.refl _, fun _ _ h _ => h, fun _ h => h, fun _ h => .inl h, fun _ h => .inl h⟩
theorem Ext.trans {F H F1 H1 F2 H2 : Hp} {σ σ1 σ2 : L2.St} {ε ε1 ε2 : En} (a : Ext F H σ ε F1 H1 σ1 ε1) (b : Ext F1 H1 σ1 ε1 F2 H2 σ2 ε2) : Ext F H σ ε F2 H2 σ2 ε2 where
  fs := a.fs.trans b.fs
  hk := fun c o h n => b.hk c o (a.hk c o h n) fun q => by
    rcases a.on c q with q | q
    · exact n q
    · rw [h] at q; cases q
  ht := fun c h => a.ht c (b.ht c h)
  fn := fun c h => by
    rcases b.fn c h with q | q | q
    · exact a.fn c q
    · exact .inr (.inl (a.ht c q))
    · rcases a.on c q with q | q
      · exact .inr (.inr q)
      · exact .inr (.inl q)
  on := fun c h => by
    rcases b.on c h with q | q
    · exact a.on c q
    · exact .inr (a.ht c q)

/-- the result of an expression: a datum that never changes; a new object that nobody else knows; the object of a slot -/
inductive R where
  | fz (d : D) | new (d : D) | at (i : Nat)

def RpR (K : PySem.W.Frag) (T : Tab) (F H : Hp) (σ : L2.St) (ε : En) : R → V → Prop
  | .fz d, v => Rp K T F d v
  | .new d, v => ∃ a o, v = .ref a ∧ F a = none ∧ H a = some o ∧ RpO K T F d o ∧ ¬ OwnAt σ ε a
  | .at i, v => σ[i]? = some (some v)
/-- the new objects among results -/
def newA : R → V → List Addr
  | .new _, .ref a => [a]
  | _, _ => []
def newAs : List R → List V → List Addr
  | r :: rs, v :: vs => newA r v ++ newAs rs vs
  | _, _ => []
/-- a new object stays as it is -/
theorem RpR.ext {K : PySem.W.Frag} {T : Tab} {F H F' H' : Hp} {σ : L2.St} {ε ε' : En} (x : Ext F H σ ε F' H' σ ε') {r : R} {v : V} (h : RpR K T F H σ ε r v) : RpR K T F' H' σ ε' r v := by
  cases r with
  | fz d => exact Rp.mono x.fs d v h
  | «at» i => exact h
  | new d =>
    obtain ⟨a, o, e, f, g, q, n⟩ := h
    refine ⟨a, o, e, ?_, x.hk a o g n, q.mono x.fs, fun z => ?_⟩
    · cases hf : F' a with
      | none => rfl
      | some u =>
        rcases x.fn a (by rw [hf]; simp) with z | z | z
        · exact absurd f z
        · rw [g] at z; cases z
        · exact absurd z n
    · rcases x.on a z with z | z
      · exact n z
      · rw [g] at z; cases z

/-- what a result stands for, now -/
def res (ε : En) : R → Option D
  | .fz d => some d
  | .new d => some d
  | .at i => match ε[i]? with
    | some (.own d) => some d
    | _ => none
theorem res_at {ε : En} {i : Nat} {d : D} (e : res ε (.at i) = some d) : ε[i]? = some (.own d) := by
  have e' : (match ε[i]? with | some (.own d) => some d | _ => none) = some d := e
  cases h : ε[i]? with
  | none => rw [h] at e'; cases e'
  | some u =>
    rw [h] at e'
    cases u with
    | own d1 => cases e'; rfl
    | _ => cases e'
theorem res_rp {K : PySem.W.Frag} {T : Tab} {F H : Hp} {σ : L2.St} {ε : En} {r : R} {v : V} {d : D} (k : Ok K T F H σ ε) (h : RpR K T F H σ ε r v) (e : res ε r = some d) : Rp K T H d v := by
  cases r with
  | fz d' => cases e; exact Rp.mono k.sub _ _ h
  | new d' =>
    cases e
    obtain ⟨a, o, rfl, _, g, q, _⟩ := h
    exact q.rp k.sub g
  | «at» i =>
    have hd := res_at e
    obtain ⟨a, o, e1, _, g, q⟩ := k.own i _ hd
    have e2 : σ[i]? = some (some v) := h
    rw [e1] at e2
    cases e2
    exact q.rp k.sub g
/-- .. as something that never changes from now on -/
def frz (ε : En) : R → Option (D × En)
  | .fz d => some (d, ε)
  | .new d => some (d, ε)
  | .at i => match ε[i]? with
    | some (.own d) => some (d, ε.set i (.fz d))
    | _ => none
theorem frz_at {ε ε' : En} {i : Nat} {d : D} (e : frz ε (.at i) = some (d, ε')) : ε[i]? = some (.own d) ∧ ε' = ε.set i (.fz d) := by
  have e' : (match ε[i]? with | some (.own d) => some (d, ε.set i (.fz d)) | _ => none) = some (d, ε') := e
  cases h : ε[i]? with
  | none => rw [h] at e'; cases e'
  | some u =>
    rw [h] at e'
    cases u with
    | own d1 => cases e'; exact ⟨rfl, rfl⟩
    | _ => cases e'
theorem same_upd {F : Hp} {a : Addr} {o : HO} (h : F a = none) : Same F (upd F a o) := fun b u e => by
  rw [upd_ne (ne_of_none e h)]; exact e
theorem upd_sub {F H : Hp} {a : Addr} {o : HO} (s : Same F H) (h : H a = some o) : Same (upd F a o) H := fun b u e => by
  by_cases hb : b = a
  · subst hb; rw [upd_same] at e; cases e; exact h
  · rw [upd_ne hb] at e; exact s b u e
theorem ok_freeze {K : PySem.W.Frag} {T : Tab} {F H : Hp} {σ : L2.St} {ε : En} (k : Ok K T F H σ ε) {a : Addr} {o : HO} (hf : F a = none) (hh : H a = some o) (hn : ¬ OwnAt σ ε a) :
    Ok K T (upd F a o) H σ ε where
  sub := upd_sub k.sub hh
  len := k.len
  fz := fun i d e => by
    obtain ⟨v, e1, r⟩ := k.fz i d e
    exact ⟨v, e1, Rp.mono (same_upd hf) _ _ r⟩
  own := fun i d e => by
    obtain ⟨b, u, e1, f, g, r⟩ := k.own i d e
    have hba : b ≠ a := fun z => hn ⟨i, d, e, z ▸ e1⟩
    exact ⟨b, u, e1, by rw [upd_ne hba]; exact f, g, r.mono (same_upd hf)⟩
  sep := k.sep
theorem own_set {σ : L2.St} {ε : En} {i : Nat} {d : D} {a : Addr} (h : OwnAt σ (ε.set i (.fz d)) a) : OwnAt σ ε a := by
  obtain ⟨j, d', e, e'⟩ := h
  by_cases hj : i = j
  · subst hj
    by_cases hl : i < ε.length
    · rw [List.getElem?_set_self hl] at e; cases e
    · rw [List.getElem?_eq_none (by rw [List.length_set]; omega)] at e; cases e
  · rw [List.getElem?_set_ne hj] at e
    exact ⟨j, d', e, e'⟩

theorem frz_ok {K : PySem.W.Frag} {T : Tab} {F0 H0 F H : Hp} {σ0 σ : L2.St} {ε0 ε ε' : En} {r : R} {v : V} {d : D} (x : Ext F0 H0 σ0 ε0 F H σ ε) (k : Ok K T F H σ ε) (h : RpR K T F H σ ε r v) (hn : ∀ a ∈ newA r v, H0 a = none) (e : frz ε r = some (d, ε')) :
    ∃ F', Ok K T F' H σ ε' ∧ Ext F0 H0 σ0 ε0 F' H σ ε' ∧ Rp K T F' d v ∧ Same F F' ∧ (∀ b, F' b ≠ none → F b ≠ none ∨ b ∈ newA r v ∨ OwnAt σ ε b) ∧ (∀ b, OwnAt σ ε' b → OwnAt σ ε b) := by
  cases r with
  | fz d' =>
    cases e
    exact ⟨F, k, x, h, Same.refl _, fun b hb => .inl hb, fun b hb => hb⟩
  | new d' =>
    cases e
    obtain ⟨a, o, rfl, f, g, q, n⟩ := h
    have h0 : H0 a = none := hn a (by simp [newA])
    refine ⟨upd F a o, ok_freeze k f g n, ⟨x.fs.trans (same_upd f), x.hk, x.ht, fun b hb => ?_, x.on⟩, ?_, same_upd f, fun b hb => ?_, fun b hb => hb⟩
    · by_cases hba : b = a
      · subst hba; exact .inr (.inl h0)
      · rw [upd_ne hba] at hb; exact x.fn b hb
    · exact RpO.rp (F := F) (same_upd f) q upd_same
    · by_cases hba : b = a
      · subst hba; exact .inr (.inl (by simp [newA]))
      · rw [upd_ne hba] at hb; exact .inl hb
  | «at» i =>
    obtain ⟨hd, rfl⟩ := frz_at e
    · 
      obtain ⟨a, o, e1, f, g, q⟩ := k.own i _ hd
      have e2 : σ[i]? = some (some v) := h
      rw [e1] at e2
      cases e2
      have hil : i < ε.length := (List.getElem?_eq_some_iff.mp hd).1
      refine ⟨upd F a o, ⟨upd_sub k.sub g, by rw [List.length_set]; exact k.len, fun j d1 ej => ?_, fun j d1 ej => ?_, fun j1 j2 d1 d2 b ej1 ej2 s1 s2 => ?_⟩, ⟨x.fs.trans (same_upd f), x.hk, x.ht, fun b hb => ?_, fun b hb => x.on b (own_set hb)⟩, ?_, same_upd f, fun b hb => ?_, fun b hb => own_set hb⟩
      · by_cases hj : i = j
        · subst hj
          rw [List.getElem?_set_self hil] at ej
          cases ej
          exact ⟨_, e1, RpO.rp (F := F) (same_upd f) q upd_same⟩
        · rw [List.getElem?_set_ne hj] at ej
          obtain ⟨w, s1, r1⟩ := k.fz j d1 ej
          exact ⟨w, s1, Rp.mono (same_upd f) _ _ r1⟩
      · by_cases hj : i = j
        · subst hj
          rw [List.getElem?_set_self hil] at ej
          cases ej
        · rw [List.getElem?_set_ne hj] at ej
          obtain ⟨b, u, s1, f1, g1, r1⟩ := k.own j d1 ej
          have hba : b ≠ a := fun z => hj (k.sep i j d d1 a hd ej e1 (z ▸ s1))
          exact ⟨b, u, s1, by rw [upd_ne hba]; exact f1, g1, r1.mono (same_upd f)⟩
      · have get : ∀ {j : Nat} {d1 : D}, (ε.set i (.fz d))[j]? = some (.own d1) → ε[j]? = some (.own d1) := fun {j d1} ej => by
          by_cases hj : i = j
          · subst hj
            rw [List.getElem?_set_self hil] at ej
            cases ej
          · rw [List.getElem?_set_ne hj] at ej
            exact ej
        exact k.sep j1 j2 d1 d2 b (get ej1) (get ej2) s1 s2
      · by_cases hba : b = a
        · subst hba
          rcases x.on b ⟨i, d, hd, e1⟩ with z | z
          · exact .inr (.inr z)
          · exact .inr (.inl z)
        · rw [upd_ne hba] at hb; exact x.fn b hb
      · exact RpO.rp (F := F) (same_upd f) q upd_same
      · by_cases hba : b = a
        · subst hba; exact .inr (.inr ⟨i, d, hd, e1⟩)
        · rw [upd_ne hba] at hb; exact .inl hb

/-- results in a row -/
def RpRs (K : PySem.W.Frag) (T : Tab) (F H : Hp) (σ : L2.St) (ε : En) : List R → List V → Prop
  | [], vs => vs = []
  | r :: rs, vs => ∃ v w, vs = v :: w ∧ RpR K T F H σ ε r v ∧ RpRs K T F H σ ε rs w
theorem RpRs.ext {K : PySem.W.Frag} {T : Tab} {F H F' H' : Hp} {σ : L2.St} {ε ε' : En} (x : Ext F H σ ε F' H' σ ε') : ∀ {rs : List R} {vs : List V}, RpRs K T F H σ ε rs vs → RpRs K T F' H' σ ε' rs vs
  | [], _, h => h
  | r :: rs, _, ⟨v, w, e, h1, h2⟩ => ⟨v, w, e, h1.ext x, RpRs.ext x h2⟩
theorem RpRs.length {K : PySem.W.Frag} {T : Tab} {F H : Hp} {σ : L2.St} {ε : En} : ∀ {rs : List R} {vs : List V}, RpRs K T F H σ ε rs vs → vs.length = rs.length
  | [], _, h => by rw [show _ = [] from h]; rfl
  | r :: rs, _, ⟨v, w, e, _, h2⟩ => by rw [e, List.length_cons, RpRs.length h2, List.length_cons]

/-- all of them as things that never change from now on -/
def frzs (ε : En) : List R → Option (List D × En)
  | [] => some ([], ε)
  | r :: rs => match frz ε r with
    | some (d, ε1) => match frzs ε1 rs with
      | some (ds, ε2) => some (d :: ds, ε2)
      | none => none
    | none => none
/-- a result that is left over when another one has been frozen -/
theorem RpR.left {K : PySem.W.Frag} {T : Tab} {F F' H : Hp} {σ : L2.St} {ε ε' : En} {r r' : R} {v v' : V} (s : Same F F') (hf : ∀ b, F' b ≠ none → F b ≠ none ∨ b ∈ newA r v ∨ OwnAt σ ε b) (ho : ∀ b, OwnAt σ ε' b → OwnAt σ ε b)
    (h : RpR K T F H σ ε r' v') (hd : ∀ a ∈ newA r' v', a ∉ newA r v) : RpR K T F' H σ ε' r' v' := by
  cases r' with
  | fz d => exact Rp.mono s _ _ h
  | «at» i => exact h
  | new d =>
    obtain ⟨a, o, rfl, f, g, q, n⟩ := h
    refine ⟨a, o, rfl, ?_, g, q.mono s, fun z => n (ho _ z)⟩
    cases hf' : F' a with
    | none => rfl
    | some u =>
      rcases hf a (by rw [hf']; simp) with z | z | z
      · exact absurd f z
      · exact absurd z (hd a (by simp [newA]))
      · exact absurd z n
theorem RpRs.left {K : PySem.W.Frag} {T : Tab} {F F' H : Hp} {σ : L2.St} {ε ε' : En} {r : R} {v : V} (s : Same F F') (hf : ∀ b, F' b ≠ none → F b ≠ none ∨ b ∈ newA r v ∨ OwnAt σ ε b) (ho : ∀ b, OwnAt σ ε' b → OwnAt σ ε b) :
    ∀ {rs : List R} {vs : List V}, RpRs K T F H σ ε rs vs → (∀ a ∈ newAs rs vs, a ∉ newA r v) → RpRs K T F' H σ ε' rs vs
  | [], _, h, _ => h
  | r' :: rs, _, ⟨v', w, e, h1, h2⟩, hd => by
    subst e
    exact ⟨v', w, rfl, h1.left s hf ho fun a ha => hd a (by simp [newAs, ha]), RpRs.left s hf ho h2 fun a ha => hd a (by simp [newAs, ha])⟩
theorem frzs_ok {K : PySem.W.Frag} {T : Tab} {F0 H0 : Hp} {σ0 σ : L2.St} {ε0 : En} : ∀ {rs : List R} {vs : List V} {F H : Hp} {ε ε' : En} {ds : List D}, Ext F0 H0 σ0 ε0 F H σ ε → Ok K T F H σ ε → RpRs K T F H σ ε rs vs →
    (∀ a ∈ newAs rs vs, H0 a = none) → (newAs rs vs).Nodup → frzs ε rs = some (ds, ε') → ∃ F', Ok K T F' H σ ε' ∧ Ext F0 H0 σ0 ε0 F' H σ ε' ∧ Rps K T F' ds vs ∧ Same F F'
  | [], vs, F, H, ε, ε', ds, x, k, h, _, _, e => by
    cases e
    exact ⟨F, k, x, rps_nil.mpr h, Same.refl _⟩
  | r :: rs, vs, F, H, ε, ε', ds, x, k, h, hn, nd, e => by
    obtain ⟨v, w, rfl, h1, h2⟩ := h
    unfold frzs at e
    split at e
    · rename_i d ε1 e1
      split at e
      · rename_i ds' ε2 e2
        cases e
        have nd' : (newA r v ++ newAs rs w).Nodup := nd
        obtain ⟨F1, k1, x1, r1, s1, f1, o1⟩ := frz_ok x k h1 (fun a ha => hn a (List.mem_append_left _ ha)) e1
        have h2' := h2.left s1 f1 o1 fun a ha hb => (List.nodup_append.mp nd').2.2 a hb a ha rfl
        obtain ⟨F2, k2, x2, r2, s2⟩ := frzs_ok x1 k1 h2' (fun a ha => hn a (List.mem_append_right _ ha)) (List.nodup_append.mp nd').2.1 e2
        exact ⟨F2, k2, x2, rps_cons.mpr ⟨v, w, rfl, Rp.mono s2 _ _ r1, r2⟩, s1.trans s2⟩
      · cases e
    · cases e
end DL

/-! DL2: what a piece of code does to the slots' data, as a function of them; the judgements -/
namespace DL
open PySem PySem.Spec PyProof.Rows L2

/-- an outcome: nothing is said; a value and the slots; an exception of an own class and the slots -/
inductive O (α : Type) where
  | bad | ok (a : α) (ε : En) | exn (c : Nat) (ε : En)
def O.bind {α β : Type} (o : O α) (f : α → En → O β) : O β :=
  match o with
  | .bad => .bad
  | .ok a ε => f a ε
  | .exn c ε => .exn c ε
@[simp] theorem O.bind_bad {α β : Type} (f : α → En → O β) : O.bind .bad f = .bad := rfl
@[simp] theorem O.bind_ok {α β : Type} (a : α) (ε : En) (f : α → En → O β) : O.bind (.ok a ε) f = f a ε := rfl
theorem O.bind_congr {α β : Type} {o o' : O α} {f : α → En → O β} (h : o = o') : O.bind o f = O.bind o' f := by rw [h]
@[simp] theorem O.bind_exn {α β : Type} (c : Nat) (ε : En) (f : α → En → O β) : O.bind (.exn c ε) f = .exn c ε := rfl

section
variable {K : PySem.W.Frag} {T : Tab} {W : WX}
/-- an outcome from the state F H σ ε, its value as S says -/
def Po {α : Type} (K : PySem.W.Frag) (T : Tab) (W : WX) (F H : Hp) (σ : L2.St) (ε : En) (o : O α) (S : α → En → Hp → Hp → Prop) : Prop :=
  match o with
  | .bad => False
  | .ok a ε' => ∀ F' H', Ok K T F' H' σ ε' → Ext F H σ ε F' H' σ ε' → S a ε' F' H'
  | .exn c ε' => ∀ F' H', Ok K T F' H' σ ε' → Ext F H σ ε F' H' σ ε' → W (.ref (T.cls c)) none σ H'
theorem Po.rebase {α : Type} {F H F1 H1 : Hp} {σ : L2.St} {ε ε1 : En} {o : O α} {S : α → En → Hp → Hp → Prop} (p : Po K T W F H σ ε o S) (x : Ext F H σ ε F1 H1 σ ε1) : Po K T W F1 H1 σ ε1 o S := by
  cases o with
  | bad => exact p
  | ok a ε' => exact fun F' H' k y => p F' H' k (x.trans y)
  | exn c ε' => exact fun F' H' k y => p F' H' k (x.trans y)
theorem Po.mono {α : Type} {F H : Hp} {σ : L2.St} {ε : En} {o : O α} {S S' : α → En → Hp → Hp → Prop} (p : Po K T W F H σ ε o S) (h : ∀ a ε' F' H', Ok K T F' H' σ ε' → Ext F H σ ε F' H' σ ε' → S a ε' F' H' → S' a ε' F' H') : Po K T W F H σ ε o S' := by
  cases o with
  | bad => exact p
  | ok a ε' => exact fun F' H' k y => h _ _ _ _ k y (p F' H' k y)
  | exn c ε' => exact p
/-- the value of an expression, made since H -/
def SE (K : PySem.W.Frag) (T : Tab) (H : Hp) (σ : L2.St) (Q : VK) : R → En → Hp → Hp → Prop := fun r ε' F' H' => ∀ v, RpR K T F' H' σ ε' r v → (∀ a ∈ newA r v, H a = none) → Q v H'
def SA (K : PySem.W.Frag) (T : Tab) (H : Hp) (σ : L2.St) (Q : List V → Hp → Prop) : List R → En → Hp → Hp → Prop := fun rs ε' F' H' => ∀ vs, RpRs K T F' H' σ ε' rs vs → (∀ a ∈ newAs rs vs, H a = none) → (newAs rs vs).Nodup → Q vs H'
def tD (K : PySem.W.Frag) (T : Tab) (W : WX) (f : En → O R) : TE := fun σ H Q => ∃ F ε, Ok K T F H σ ε ∧ Po K T W F H σ ε (f ε) (SE K T H σ Q)
def tDT (K : PySem.W.Frag) (T : Tab) (W : WX) (f : En → O Bool) : TT := fun σ H Q => ∃ F ε, Ok K T F H σ ε ∧ Po K T W F H σ ε (f ε) (fun b _ _ H' => Q b H')
def tDA (K : PySem.W.Frag) (T : Tab) (W : WX) (f : En → O (List R)) : TA := fun σ H Q => ∃ F ε, Ok K T F H σ ε ∧ Po K T W F H σ ε (f ε) (SA K T H σ Q)

theorem tD_mono {f : En → O R} {σ : L2.St} {H : Hp} {Q Q' : VK} (h : tD K T W f σ H Q) (w : ∀ v H', Q v H' → Q' v H') : tD K T W f σ H Q' := by
  obtain ⟨F, ε, k, p⟩ := h
  exact ⟨F, ε, k, p.mono fun r ε' F' H' _ _ s v hr hn => w _ _ (s v hr hn)⟩
/-- an expression, then the rest; all is told from a state ahead (F0 H0 ε0) -/
theorem tD_use {α : Type} {f : En → O R} {g : R → En → O α} {F0 H0 F H : Hp} {σ : L2.St} {ε0 ε : En} {S : α → En → Hp → Hp → Prop} {Q : VK} (k : Ok K T F H σ ε) (x0 : Ext F0 H0 σ ε0 F H σ ε) (p : Po K T W F0 H0 σ ε0 ((f ε).bind g) S)
    (h : ∀ v F1 H1 r ε1, Ok K T F1 H1 σ ε1 → Ext F H σ ε F1 H1 σ ε1 → Ext F0 H0 σ ε0 F1 H1 σ ε1 → RpR K T F1 H1 σ ε1 r v → (∀ a ∈ newA r v, H a = none) → Po K T W F0 H0 σ ε0 (g r ε1) S → Q v H1) : tD K T W f σ H Q := by
  refine ⟨F, ε, k, ?_⟩
  cases e : f ε with
  | bad => rw [e] at p; exact p
  | ok r ε1 =>
    rw [e] at p
    exact fun F1 H1 k1 x1 v hr hn => h v F1 H1 r ε1 k1 x1 (x0.trans x1) hr hn p
  | exn c ε1 =>
    rw [e] at p
    exact fun F1 H1 k1 x1 => p F1 H1 k1 (x0.trans x1)
theorem tDT_use {α : Type} {f : En → O Bool} {g : Bool → En → O α} {F0 H0 F H : Hp} {σ : L2.St} {ε0 ε : En} {S : α → En → Hp → Hp → Prop} {Q : Bool → Hp → Prop} (k : Ok K T F H σ ε) (x0 : Ext F0 H0 σ ε0 F H σ ε) (p : Po K T W F0 H0 σ ε0 ((f ε).bind g) S)
    (h : ∀ b F1 H1 ε1, Ok K T F1 H1 σ ε1 → Ext F H σ ε F1 H1 σ ε1 → Ext F0 H0 σ ε0 F1 H1 σ ε1 → Po K T W F0 H0 σ ε0 (g b ε1) S → Q b H1) : tDT K T W f σ H Q := by
  refine ⟨F, ε, k, ?_⟩
  cases e : f ε with
  | bad => rw [e] at p; exact p
  | ok b ε1 =>
    rw [e] at p
    exact fun F1 H1 k1 x1 => h b F1 H1 ε1 k1 x1 (x0.trans x1) p
  | exn c ε1 =>
    rw [e] at p
    exact fun F1 H1 k1 x1 => p F1 H1 k1 (x0.trans x1)
theorem tDA_use {α : Type} {f : En → O (List R)} {g : List R → En → O α} {F0 H0 F H : Hp} {σ : L2.St} {ε0 ε : En} {S : α → En → Hp → Hp → Prop} {Q : List V → Hp → Prop} (k : Ok K T F H σ ε) (x0 : Ext F0 H0 σ ε0 F H σ ε) (p : Po K T W F0 H0 σ ε0 ((f ε).bind g) S)
    (h : ∀ vs F1 H1 rs ε1, Ok K T F1 H1 σ ε1 → Ext F H σ ε F1 H1 σ ε1 → Ext F0 H0 σ ε0 F1 H1 σ ε1 → RpRs K T F1 H1 σ ε1 rs vs → (∀ a ∈ newAs rs vs, H a = none) → (newAs rs vs).Nodup → Po K T W F0 H0 σ ε0 (g rs ε1) S → Q vs H1) : tDA K T W f σ H Q := by
  refine ⟨F, ε, k, ?_⟩
  cases e : f ε with
  | bad => rw [e] at p; exact p
  | ok r ε1 =>
    rw [e] at p
    exact fun F1 H1 k1 x1 v hr hn nd => h v F1 H1 r ε1 k1 x1 (x0.trans x1) hr hn nd p
  | exn c ε1 =>
    rw [e] at p
    exact fun F1 H1 k1 x1 => p F1 H1 k1 (x0.trans x1)
end

theorem PE.imp {X : Cx} {e : Expr} {t t' : TE} (h : PE X e t) (w : ∀ σ H Q, t' σ H Q → t σ H Q) : PE X e t' := ⟨fun pins s σ H Q I q => h.run pins s σ H Q I (w σ H Q q)⟩
theorem PT.imp {X : Cx} {e : Expr} {t t' : TT} (h : PT X e t) (w : ∀ σ H Q, t' σ H Q → t σ H Q) : PT X e t' := ⟨fun pins s σ H Q I q => h.run pins s σ H Q I (w σ H Q q)⟩
theorem PW.imp {X : Cx} {e : Expr} {t t' : TT} (h : PW X e t) (w : ∀ σ H Q, t' σ H Q → t σ H Q) : PW X e t' := ⟨fun wh pins s σ H Q I q => h.run wh pins s σ H Q I (w σ H Q q)⟩
theorem PA.imp {X : Cx} {es : List Expr} {t t' : TA} (h : PA X es t) (w : ∀ σ H Q, t' σ H Q → t σ H Q) : PA X es t' := ⟨fun pos pins s σ H Q I q => h.run pos pins s σ H Q I (w σ H Q q)⟩
theorem PS.imp {X : Cx} {st : Stmt} {t t' : TS} (h : PS X st t) (w : ∀ D σ H, t' D σ H → t D σ H) : PS X st t' := ⟨fun pins s σ H D I q => h.run pins s σ H D I (w D σ H q)⟩
theorem PSs.imp {X : Cx} {st : List Stmt} {t t' : TS} (h : PSs X st t) (w : ∀ D σ H, t' D σ H → t D σ H) : PSs X st t' := ⟨fun pins s σ H D I q => h.run pins s σ H D I (w D σ H q)⟩

abbrev DE (X : Cx) (T : Tab) (W : WX) (e : Expr) (f : En → O R) : Prop := PE X e (tD X.K T W f)
abbrev DT (X : Cx) (T : Tab) (W : WX) (e : Expr) (f : En → O Bool) : Prop := PT X e (tDT X.K T W f)
abbrev DW (X : Cx) (T : Tab) (W : WX) (e : Expr) (f : En → O Bool) : Prop := PW X e (tDT X.K T W f)
abbrev DA (X : Cx) (T : Tab) (W : WX) (es : List Expr) (f : En → O (List R)) : Prop := PA X es (tDA X.K T W f)

section
variable {X : Cx} {T : Tab} {W : WX} {e a b c : Expr} {es : List Expr} {f fa fb fc : En → O R} {pos : Pos}

/-! ### names, constants -/
def vSlot (ε : En) (i : Nat) : O R :=
  match ε[i]? with
  | some (.fz d) => .ok (.fz d) ε
  | some (.own _) => .ok (.at i) ε
  | _ => .bad
/-- the name in slot i -/
def dVar (i : Nat) : En → O R := fun ε => vSlot ε i
theorem de_var (i : Nat) {x : Str} {p : Pos} (h : PE X (.Name x p) (tVar i)) : DE X T W (.Name x p) (dVar i) := by
  refine PE.imp h fun σ H Q q => ?_
  obtain ⟨F, ε, k, q⟩ := q
  unfold dVar vSlot at q
  cases hs : ε[i]? with
  | none => rw [hs] at q; exact q.elim
  | some u =>
    rw [hs] at q
    cases u with
    | no => exact q.elim
    | fz d =>
      obtain ⟨v, e1, r⟩ := k.fz i d hs
      exact ⟨v, e1, q F H k Ext.refl v r (by simp [newA])⟩
    | own d =>
      obtain ⟨a, o, e1, _⟩ := k.own i d hs
      exact ⟨.ref a, e1, q F H k Ext.refl (.ref a) e1 (by simp [newA])⟩
def flat : D → Bool
  | .non => true | .bl _ => true | .int _ => true | .str _ => true | .fn _ => true | .ty _ => true
  | _ => false
theorem flat_rp {K : PySem.W.Frag} {F F' : Hp} {d : D} {v : V} (h : flat d = true) (r : Rp K T F d v) : Rp K T F' d v := by
  cases d with
  | non => exact rp_non.mpr (rp_non.mp r)
  | bl b => exact rp_bl.mpr (rp_bl.mp r)
  | int b => exact rp_int.mpr (rp_int.mp r)
  | str b => exact rp_str.mpr (rp_str.mp r)
  | fn b => exact rp_fn.mpr (rp_fn.mp r)
  | ty b => exact rp_ty.mpr (rp_ty.mp r)
  | _ => cases h
/-- a constant -/
def dC (d : D) : En → O R := fun ε => .ok (.fz d) ε
theorem de_const {v : V} {d : D} (h : PE X e (tC v)) (r : ∀ F, Rp X.K T F d v) : DE X T W e (dC d) := by
  refine PE.imp h fun σ H Q q => ?_
  obtain ⟨F, ε, k, q⟩ := q
  exact q F H k Ext.refl v (r F) (by simp [newA])
theorem de_int {i : Int} {j : Nat} : DE X T W (.Constant (.int i) j pos) (dC (.int i)) := de_const pe_int fun _ => rp_int.mpr rfl
theorem de_bl {i : Bool} {j : Nat} : DE X T W (.Constant (.bool i) j pos) (dC (.bl i)) := de_const pe_bl fun _ => rp_bl.mpr rfl
theorem de_non {j : Nat} : DE X T W (.Constant .none j pos) (dC .non) := de_const pe_non fun _ => rp_non.mpr rfl
theorem de_str {x : Str} {j : Nat} : DE X T W (.Constant (.str x) j pos) (dC (.str x)) := de_const pe_str fun _ => rp_str.mpr rfl
/-- a number of the module -/
theorem de_glob {x : Str} {i : Int} {t : Tok} (hg : Gl X x) (hm : X.mg x = some (.int i t)) (hd : (x == ("__debug__" : Str)) = false := by decide) : DE X T W (.Name x pos) (dC (.int i)) :=
  de_const (pe_glob (v := .int i) hg hm ⟨_, rfl⟩ hd) fun _ => rp_int.mpr rfl

/-! ### operators whose answer is flat -/
def vOp2 (g : D → D → Option D) (ε : En) (r1 r2 : R) : O R :=
  match res ε r1, res ε r2 with
  | some d1, some d2 => match g d1 d2 with
    | some d => .ok (.fz d) ε
    | none => .bad
  | _, _ => .bad
def dOp2 (g : D → D → Option D) (fa fb : En → O R) : En → O R := fun ε => (fa ε).bind fun r1 ε1 => (fb ε1).bind fun r2 ε2 => vOp2 g ε2 r1 r2
/-- two expressions, the second after the first -/
theorem two_use {α : Type} {K : PySem.W.Frag} {g : R → R → En → O α} {F0 H0 F H : Hp} {σ : L2.St} {ε0 ε : En} {S : α → En → Hp → Hp → Prop} {P : V → V → Hp → Prop} (k : Ok K T F H σ ε) (x0 : Ext F0 H0 σ ε0 F H σ ε) (p : Po K T W F0 H0 σ ε0 ((fa ε).bind fun r1 ε1 => (fb ε1).bind fun r2 ε2 => g r1 r2 ε2) S)
    (h : ∀ v1 v2 F2 H2 r1 r2 ε2, Ok K T F2 H2 σ ε2 → Ext F H σ ε F2 H2 σ ε2 → Ext F0 H0 σ ε0 F2 H2 σ ε2 → RpR K T F2 H2 σ ε2 r1 v1 → RpR K T F2 H2 σ ε2 r2 v2 → (∀ a ∈ newA r1 v1, H a = none) → (∀ a ∈ newA r2 v2, H a = none) → (∀ a ∈ newA r2 v2, a ∉ newA r1 v1) → Po K T W F0 H0 σ ε0 (g r1 r2 ε2) S → P v1 v2 H2) :
    tD K T W fa σ H fun v1 H1 => tD K T W fb σ H1 fun v2 H2 => P v1 v2 H2 := by
  refine tD_use k x0 p fun v1 F1 H1 r1 ε1 k1 x1 y1 q1 n1 p1 => ?_
  refine tD_use k1 y1 p1 fun v2 F2 H2 r2 ε2 k2 x2 y2 q2 n2 p2 => ?_
  refine h v1 v2 F2 H2 r1 r2 ε2 k2 (x1.trans x2) y2 (q1.ext x2) q2 n1 (fun a ha => x1.ht a (n2 a ha)) (fun a ha hb => ?_) p2
  cases r1 with
  | new d =>
    obtain ⟨b, o, rfl, f, g', _⟩ := q1
    have e : a = b := by simpa [newA] using hb
    subst e
    rw [n2 _ ha] at g'; cases g'
  | fz d => simp [newA] at hb
  | «at» i => simp [newA] at hb
/-- the answer is there -/
theorem SE.fin {K : PySem.W.Frag} {Hs F0 H0 F H : Hp} {σ : L2.St} {ε0 ε : En} {Q : VK} {r : R} {v : V} (k : Ok K T F H σ ε) (x : Ext F0 H0 σ ε0 F H σ ε) (p : Po K T W F0 H0 σ ε0 (.ok r ε) (SE K T Hs σ Q)) (h : RpR K T F H σ ε r v) (hn : ∀ a ∈ newA r v, Hs a = none) : Q v H :=
  p F H k x v h hn
theorem SE.flat {K : PySem.W.Frag} {Hs F0 H0 F H H' : Hp} {σ : L2.St} {ε0 ε : En} {Q : VK} {d : D} {v : V} (k : Ok K T F H σ ε) (x : Ext F0 H0 σ ε0 F H σ ε) (p : Po K T W F0 H0 σ ε0 (.ok (.fz d) ε) (SE K T Hs σ Q)) (hf : flat d = true) (h : Rp K T H' d v) : Q v H :=
  SE.fin k x p (flat_rp hf h) (by simp [newA])
/-- a rule on values, at data with a flat answer -/
def Op2 (K : PySem.W.Frag) (T : Tab) (g : D → D → Option D) (r : R2) : Prop :=
  ∀ d1 d2 d x y H Q, g d1 d2 = some d → Rp K T H d1 x → Rp K T H d2 y → (∀ v, Rp K T H d v → Q v H) → flat d = true ∧ r x y H Q
theorem op2_use {g : D → D → Option D} {r : R2} (hg : Op2 X.K T g r) {σ : L2.St} {H : Hp} {Q : VK} (q : tD X.K T W (dOp2 g fa fb) σ H Q) : tOp r (tD X.K T W fa) (tD X.K T W fb) σ H Q := by
  obtain ⟨F, ε, k, p⟩ := q
  refine two_use (g := fun r1 r2 ε2 => vOp2 g ε2 r1 r2) k Ext.refl p fun v1 v2 F2 H2 r1 r2 ε2 k2 _ x2 q1 q2 n1 n2 nd p2 => ?_
  unfold vOp2 at p2
  cases e1 : res ε2 r1 with
  | none => rw [e1] at p2; exact p2.elim
  | some d1 =>
    cases e2 : res ε2 r2 with
    | none => rw [e1, e2] at p2; exact p2.elim
    | some d2 =>
      rw [e1, e2] at p2
      cases e3 : g d1 d2 with
      | none => simp only [e3] at p2; exact p2.elim
      | some d =>
        simp only [e3] at p2
        have a1 := res_rp k2 q1 e1
        have a2 := res_rp k2 q2 e2
        have hf := (hg d1 d2 d v1 v2 H2 (fun _ _ => True) e3 a1 a2 fun _ _ => trivial).1
        exact (hg d1 d2 d v1 v2 H2 Q e3 a1 a2 fun v hv => SE.flat k2 x2 p2 hf hv).2
theorem de_op {op : Operator} {g : D → D → Option D} {r : R2} (ho : OpR X (binaryOp op) r) (hg : Op2 X.K T g r) (ha : DE X T W a fa) (hb : DE X T W b fb) : DE X T W (.BinOp a op b pos) (dOp2 g fa fb) :=
  PE.imp (pe_op ho ha hb) fun _ _ _ q => op2_use hg q
theorem de_cmp {op : CmpOp} {g : D → D → Option D} {r : R2} (ho : OpR X (compareOp op) r) (hg : Op2 X.K T g r) (ha : DE X T W a fa) (hb : DE X T W b fb) (hm : behindInMarks op b = false) : DE X T W (.Compare a [op] [b] pos) (dOp2 g fa fb) :=
  PE.imp (pe_cmpR ho ha hb hm) fun _ _ _ q => op2_use hg q

/-! ### tests -/
/-- the truth of an expression whose answer is a bool -/
def vBool (ε : En) (r : R) : O Bool :=
  match res ε r with
  | some (.bl b) => .ok b ε
  | _ => .bad
def dTst (f : En → O R) : En → O Bool := fun ε => (f ε).bind fun r ε1 => vBool ε1 r
theorem tst_use {σ : L2.St} {H : Hp} {Q : Bool → Hp → Prop} {K : PySem.W.Frag} (q : tDT K T W (dTst f) σ H Q) : tD K T W f σ H fun x H' => ∃ k, x = .bl k ∧ Q k H' := by
  obtain ⟨F, ε, k, p⟩ := q
  refine tD_use (g := fun r ε1 => vBool ε1 r) k Ext.refl p fun v F1 H1 r ε1 k1 x1 _ q1 n1 p1 => ?_
  unfold vBool at p1
  split at p1
  · rename_i b hb
    exact ⟨b, rp_bl.mp (res_rp k1 q1 hb), p1 F1 H1 k1 x1⟩
  · exact p1.elim
theorem dt_cmp {op : CmpOp} {g : D → D → Option D} {r : R2} (ho : OpR X (compareOp op) r) (hg : Op2 X.K T g r) (ha : DE X T W a fa) (hb : DE X T W b fb) (hm : behindInMarks op b = false) : DT X T W (.Compare a [op] [b] pos) (dTst (dOp2 g fa fb)) := by
  refine PT.imp (pt_cmpR ho ha hb hm) fun σ H Q q => ?_
  exact op2_use hg (tst_use q)
theorem dt_val (he : DE X T W e f) (hp : ∀ whole, isTrue e X.env whole = (do let v ← whole; standAt e.pos; holding [v] (truthy v)) := by intro _; rfl) : DT X T W e (dTst f) :=
  PT.imp (pt_val he hp) fun _ _ _ q => tst_use q
/-- the truth of any value -/
def truth : D → Option Bool
  | .non => some false
  | .bl b => some b
  | .int i => some (i != 0)
  | .lst ds => some (!ds.isEmpty)
  | .tup ds => some (!ds.isEmpty)
  | _ => none
def vTru (ε : En) (r : R) : O Bool :=
  match res ε r with
  | some d => match truth d with
    | some b => .ok b ε
    | none => .bad
  | none => .bad
def dTru (f : En → O R) : En → O Bool := fun ε => (f ε).bind fun r ε1 => vTru ε1 r
theorem rps_isEmpty {K : PySem.W.Frag} {F : Hp} {ds : List D} {vs : List V} (h : Rps K T F ds vs) : vs.isEmpty = ds.isEmpty := by
  cases ds with
  | nil => rw [rps_nil.mp h]; rfl
  | cons d ds => obtain ⟨v, r, e, _⟩ := rps_cons.mp h; rw [e]; rfl
theorem dt_tru (he : DE X T W e f) (hp : ∀ whole, isTrue e X.env whole = (do let v ← whole; standAt e.pos; holding [v] (truthy v)) := by intro _; rfl) : DT X T W e (dTru f) := by
  refine PT.imp (pt_truth he hp) fun σ H Q q => ?_
  obtain ⟨F, ε, k, p⟩ := q
  refine tD_use (g := fun r ε1 => vTru ε1 r) k Ext.refl p fun v F1 H1 r ε1 k1 x1 _ q1 n1 p1 => ?_
  unfold vTru at p1
  cases e1 : res ε1 r with
  | none => rw [e1] at p1; exact p1.elim
  | some d =>
    simp only [e1] at p1
    cases e2 : truth d with
    | none => simp only [e2] at p1; exact p1.elim
    | some b =>
      simp only [e2] at p1
      have rr := res_rp k1 q1 e1
      refine ⟨b, ?_, p1 F1 H1 k1 x1⟩
      cases d with
      | non => cases e2; rw [rp_non.mp rr]; exact rfl
      | bl b' => cases e2; rw [rp_bl.mp rr]; exact rfl
      | int i => cases e2; rw [rp_int.mp rr]; exact rfl
      | lst ds =>
        cases e2
        obtain ⟨a, vs, rfl, hq, hr⟩ := rp_lst.mp rr
        exact .inl ⟨vs, hq, by rw [rps_isEmpty hr]⟩
      | tup ds =>
        cases e2
        obtain ⟨a, vs, rfl, hq, hr⟩ := rp_tupT rr
        exact .inr (.inl ⟨vs, hq, by rw [rps_isEmpty hr]⟩)
      | _ => cases e2
/-! and, or, not -/
def dAnd (f g : En → O Bool) : En → O Bool := fun ε => (f ε).bind fun b ε1 => if b = true then g ε1 else .ok false ε1
def dOr (f g : En → O Bool) : En → O Bool := fun ε => (f ε).bind fun b ε1 => if b = true then .ok true ε1 else g ε1
def dNot (f : En → O Bool) : En → O Bool := fun ε => (f ε).bind fun b ε1 => .ok (!b) ε1
variable {ft gt : En → O Bool} {rest : List Expr}
theorem dw_and1 (ha : DT X T W a ft) : DW X T W (.BoolOp .And [a] pos) ft := pw_and1 ha
theorem dw_or1 (ha : DT X T W a ft) : DW X T W (.BoolOp .Or [a] pos) ft := pw_or1 ha
theorem dw_and (ha : DT X T W a ft) (hb : DW X T W (.BoolOp .And (b :: rest) pos) gt) : DW X T W (.BoolOp .And (a :: b :: rest) pos) (dAnd ft gt) := by
  refine PW.imp (pw_and ha hb) fun σ H Q q => ?_
  obtain ⟨F, ε, k, p⟩ := q
  refine tDT_use (g := fun b ε1 => if b = true then gt ε1 else .ok false ε1) k Ext.refl p fun c F1 H1 ε1 k1 x1 _ p1 => ?_
  cases c with
  | true => exact ⟨F1, ε1, k1, p1.rebase x1⟩
  | false => exact p1 F1 H1 k1 x1
theorem dw_or (ha : DT X T W a ft) (hb : DW X T W (.BoolOp .Or (b :: rest) pos) gt) : DW X T W (.BoolOp .Or (a :: b :: rest) pos) (dOr ft gt) := by
  refine PW.imp (pw_or ha hb) fun σ H Q q => ?_
  obtain ⟨F, ε, k, p⟩ := q
  refine tDT_use (g := fun b ε1 => if b = true then .ok true ε1 else gt ε1) k Ext.refl p fun c F1 H1 ε1 k1 x1 _ p1 => ?_
  cases c with
  | false => exact ⟨F1, ε1, k1, p1.rebase x1⟩
  | true => exact p1 F1 H1 k1 x1
theorem dt_bool (h : DW X T W e ft) : DT X T W e ft := PW.pt h
theorem dt_not (ha : DT X T W a ft) : DT X T W (.UnaryOp .Not a pos) (dNot ft) := by
  refine PT.imp (pt_not ha) fun σ H Q q => ?_
  obtain ⟨F, ε, k, p⟩ := q
  exact tDT_use (g := fun b ε1 => .ok (!b) ε1) k Ext.refl p fun c F1 H1 ε1 k1 x1 _ p1 => p1 F1 H1 k1 x1
/-- .. as values: all but the last are bools -/
def dAndV (f g : En → O R) : En → O R := fun ε => (dTst f ε).bind fun b ε1 => if b = true then g ε1 else .ok (.fz (.bl false)) ε1
def dOrV (f g : En → O R) : En → O R := fun ε => (dTst f ε).bind fun b ε1 => if b = true then .ok (.fz (.bl true)) ε1 else g ε1
def dNotV (f : En → O R) : En → O R := fun ε => (dTst f ε).bind fun b ε1 => .ok (.fz (.bl (!b))) ε1
theorem tstV_use {α : Type} {K : PySem.W.Frag} {g : Bool → En → O α} {F0 H0 F H : Hp} {σ : L2.St} {ε0 ε : En} {S : α → En → Hp → Hp → Prop} {P : Bool → Hp → Prop} (k : Ok K T F H σ ε) (x0 : Ext F0 H0 σ ε0 F H σ ε) (p : Po K T W F0 H0 σ ε0 ((dTst f ε).bind g) S)
    (h : ∀ b F1 H1 ε1, Ok K T F1 H1 σ ε1 → Ext F H σ ε F1 H1 σ ε1 → Ext F0 H0 σ ε0 F1 H1 σ ε1 → Po K T W F0 H0 σ ε0 (g b ε1) S → P b H1) : tD K T W f σ H fun x H1 => ∃ c, x = .bl c ∧ P c H1 := by
  refine tst_use ?_
  exact tDT_use k x0 p h
theorem de_one {op} (h : DE X T W a f) : DE X T W (.BoolOp op [a] pos) f := pe_one h
theorem de_and (ha : DE X T W a fa) (hb : DE X T W (.BoolOp .And (b :: rest) pos) fb) : DE X T W (.BoolOp .And (a :: b :: rest) pos) (dAndV fa fb) := by
  refine PE.imp (pe_and ha hb) fun σ H Q q => ?_
  obtain ⟨F, ε, k, p⟩ := q
  refine tstV_use k Ext.refl p fun c F1 H1 ε1 k1 x1 _ p1 => ?_
  cases c with
  | true => exact ⟨F1, ε1, k1, (p1.rebase x1).mono fun r ε' F' H' _ _ s v hr hn => s v hr fun a ha => x1.ht a (hn a ha)⟩
  | false => exact SE.flat (d := .bl false) (v := .bl false) (H' := H1) k1 x1 p1 rfl (rp_bl.mpr rfl)
theorem de_or (ha : DE X T W a fa) (hb : DE X T W (.BoolOp .Or (b :: rest) pos) fb) : DE X T W (.BoolOp .Or (a :: b :: rest) pos) (dOrV fa fb) := by
  refine PE.imp (pe_or ha hb) fun σ H Q q => ?_
  obtain ⟨F, ε, k, p⟩ := q
  refine tstV_use k Ext.refl p fun c F1 H1 ε1 k1 x1 _ p1 => ?_
  cases c with
  | false => exact ⟨F1, ε1, k1, (p1.rebase x1).mono fun r ε' F' H' _ _ s v hr hn => s v hr fun a ha => x1.ht a (hn a ha)⟩
  | true => exact SE.flat (d := .bl true) (v := .bl true) (H' := H1) k1 x1 p1 rfl (rp_bl.mpr rfl)
theorem de_not (ha : DE X T W a fa) : DE X T W (.UnaryOp .Not a pos) (dNotV fa) := by
  refine PE.imp (pe_not ha) fun σ H Q q => ?_
  obtain ⟨F, ε, k, p⟩ := q
  refine tstV_use (g := fun b ε1 => O.ok (R.fz (D.bl (!b))) ε1) k Ext.refl p fun c F1 H1 ε1 k1 x1 _ p1 => ?_
  exact SE.flat (d := .bl (!c)) (v := .bl (!c)) (H' := H1) k1 x1 p1 rfl (rp_bl.mpr rfl)
/-- a if c else b -/
def dIfE (ft : En → O Bool) (fa fb : En → O R) : En → O R := fun ε => (ft ε).bind fun c ε1 => if c = true then fa ε1 else fb ε1
theorem de_ifE (hc : DT X T W c ft) (ha : DE X T W a fa) (hb : DE X T W b fb) : DE X T W (.IfExp c a b pos) (dIfE ft fa fb) := by
  refine PE.imp (pe_ifExp hc ha hb) fun σ H Q q => ?_
  obtain ⟨F, ε, k, p⟩ := q
  refine tDT_use (g := fun c ε1 => if c = true then fa ε1 else fb ε1) k Ext.refl p fun d F1 H1 ε1 k1 x1 _ p1 => ?_
  cases d with
  | true => exact ⟨F1, ε1, k1, (p1.rebase x1).mono fun r ε' F' H' _ _ s v hr hn => s v hr fun a ha => x1.ht a (hn a ha)⟩
  | false => exact ⟨F1, ε1, k1, (p1.rebase x1).mono fun r ε' F' H' _ _ s v hr hn => s v hr fun a ha => x1.ht a (hn a ha)⟩
end
end DL

/-! DL3: new objects, argument lists, statements -/
namespace DL
open PySem PySem.Spec PyProof.Rows L2

section
variable {K : PySem.W.Frag} {T : Tab} {W : WX} {F F' H : Hp} {σ : L2.St} {ε : En} {p : Addr} {o : HO}
theorem ok_alloc (k : Ok K T F H σ ε) (hp : H p = none) : Ok K T F (upd H p o) σ ε where
  sub := fun b u e => by rw [upd_ne (ne_of_none (k.sub _ _ e) hp)]; exact k.sub _ _ e
  len := k.len
  fz := k.fz
  own := fun i d e => by
    obtain ⟨a, u, e1, f, g, r⟩ := k.own i d e
    exact ⟨a, u, e1, f, by rw [upd_ne (ne_of_none g hp)]; exact g, r⟩
  sep := k.sep
theorem Ext.alloc {F0 H0 : Hp} {σ0 : L2.St} {ε0 : En} (x : Ext F0 H0 σ0 ε0 F H σ ε) (hp : H p = none) : Ext F0 H0 σ0 ε0 F (upd H p o) σ ε where
  fs := x.fs
  hk := fun a u e n => by
    have := x.hk a u e n
    rw [upd_ne (ne_of_none this hp)]; exact this
  ht := fun a e => by
    by_cases h : a = p
    · subst h; rw [upd_same] at e; cases e
    · rw [upd_ne h] at e; exact x.ht a e
  fn := x.fn
  on := x.on
theorem not_own_fresh (k : Ok K T F H σ ε) (hp : H p = none) : ¬ OwnAt σ ε p := fun ⟨i, d, e, s⟩ => by
  obtain ⟨a, u, e1, _, g, _⟩ := k.own i d e
  rw [s] at e1; cases e1
  rw [hp] at g; cases g
theorem free_of (k : Ok K T F H σ ε) (hp : H p = none) : F p = none := by
  cases e : F p with
  | none => rfl
  | some u => rw [k.sub _ _ e] at hp; cases hp
/-- .. and frozen -/
theorem ok_allocF (k : Ok K T F H σ ε) (hp : H p = none) : Ok K T (upd F p o) (upd H p o) σ ε :=
  ok_freeze (ok_alloc k hp) (free_of k hp) upd_same fun z => not_own_fresh k hp z
theorem Ext.allocF {F0 H0 : Hp} {σ0 : L2.St} {ε0 : En} (x : Ext F0 H0 σ0 ε0 F H σ ε) (k : Ok K T F H σ ε) (hp : H p = none) : Ext F0 H0 σ0 ε0 (upd F p o) (upd H p o) σ ε where
  fs := x.fs.trans (same_upd (free_of k hp))
  hk := (x.alloc hp).hk
  ht := (x.alloc hp).ht
  fn := fun a h => by
    by_cases e : a = p
    · subst e; exact .inr (.inl (x.ht _ hp))
    · rw [upd_ne e] at h; exact x.fn a h
  on := x.on
/-- a new object is the answer -/
theorem SE.new {F0 H0 : Hp} {ε0 : En} {Q : VK} {d : D} (k : Ok K T F H σ ε) (x : Ext F0 H0 σ ε0 F H σ ε) (q : Po K T W F0 H0 σ ε0 (.ok (.new d) ε) (SE K T H0 σ Q)) (hp : H p = none) (r : RpO K T F d o) : Q (.ref p) (upd H p o) :=
  q F (upd H p o) (ok_alloc k hp) (x.alloc hp) (.ref p) ⟨p, o, rfl, free_of k hp, upd_same, r, not_own_fresh k hp⟩ fun a ha => by
    have e : a = p := by simpa [newA] using ha
    subst e; exact x.ht _ hp
/-- a new tuple is the answer -/
theorem SE.newT {F0 H0 Hs : Hp} {ε0 : En} {Q : VK} {ds : List D} {vs : List V} (k : Ok K T F H σ ε) (x : Ext F0 H0 σ ε0 F H σ ε) (q : Po K T W F0 H0 σ ε0 (.ok (.fz (.tup ds)) ε) (SE K T Hs σ Q)) (hp : H p = none) (r : Rps K T F ds vs) {o : Obj} (ho : o.dict = none) : Q (.ref p) (upd H p (.frz o (.tup vs))) :=
  q (upd F p (.frz o (.tup vs))) (upd H p (.frz o (.tup vs))) (ok_allocF k hp) (x.allocF k hp) (.ref p) (rp_tup.mpr ⟨p, vs, rfl, .inl ⟨o, upd_same, ho⟩, Rps.mono (same_upd (free_of k hp)) _ _ r⟩) (by simp [newA])
end

section
variable {X : Cx} {T : Tab} {W : WX} {e a b c : Expr} {es : List Expr} {f fa fb fc : En → O R} {fs : En → O (List R)} {pos : Pos}

/-! ### argument lists, displays -/
def dNil : En → O (List R) := fun ε => .ok [] ε
def dCons (f : En → O R) (g : En → O (List R)) : En → O (List R) := fun ε => (f ε).bind fun r ε1 => (g ε1).bind fun rs ε2 => .ok (r :: rs) ε2
theorem da_nil : DA X T W [] dNil := by
  refine PA.imp pa_nil fun σ H Q q => ?_
  obtain ⟨F, ε, k, q⟩ := q
  exact q F H k Ext.refl [] rfl (by simp [newAs]) (by simp [newAs])
theorem da_cons (ha : DE X T W e f) (hr : DA X T W es fs) (hs : starEach (e :: es) X.env = (false, eval e X.env) :: starEach es X.env := by rfl) : DA X T W (e :: es) (dCons f fs) := by
  refine PA.imp (pa_cons ha hr hs) fun σ H Q q => ?_
  obtain ⟨F, ε, k, p⟩ := q
  refine tD_use (g := fun r ε1 => (fs ε1).bind fun rs ε2 => .ok (r :: rs) ε2) k Ext.refl p fun v F1 H1 r ε1 k1 x1 _ q1 n1 p1 => ?_
  refine tDA_use (g := fun rs ε2 => .ok (r :: rs) ε2) k1 x1 p1 fun vs F2 H2 rs ε2 k2 x2 y2 q2 n2 nd p2 => ?_
  refine p2 F2 H2 k2 y2 (v :: vs) ⟨v, vs, rfl, q1.ext x2, q2⟩ (fun a ha => ?_) ?_
  · rcases List.mem_append.mp (show a ∈ newA r v ++ newAs rs vs from ha) with h | h
    · exact n1 a h
    · exact x1.ht a (n2 a h)
  · show (newA r v ++ newAs rs vs).Nodup
    refine List.nodup_append.mpr ⟨?_, nd, fun a ha b hb e => ?_⟩
    · cases r <;> cases v <;> simp [newA]
    · subst e
      cases r with
      | new d =>
        obtain ⟨c, o, rfl, f', g', _⟩ := q1
        have ec : a = c := by simpa [newA] using ha
        subst ec
        rw [n2 _ hb] at g'; cases g'
      | fz d => simp [newA] at ha
      | «at» i => simp [newA] at ha
/-- a tuple -/
def vTup (ε : En) (rs : List R) : O R :=
  match frzs ε rs with
  | some (ds, ε') => if rs.length ≤ 1000 then .ok (.fz (.tup ds)) ε' else .bad
  | none => .bad
def dTup (fs : En → O (List R)) : En → O R := fun ε => (fs ε).bind fun rs ε1 => vTup ε1 rs
def vLst (ε : En) (rs : List R) : O R :=
  match frzs ε rs with
  | some (ds, ε') => if rs.length ≤ 1000 then .ok (.new (.lst ds)) ε' else .bad
  | none => .bad
def dLst (fs : En → O (List R)) : En → O R := fun ε => (fs ε).bind fun rs ε1 => vLst ε1 rs
theorem line1000 {n : Nat} (h : n ≤ 1000) : n ≤ sizeLine := by rw [sizeLine_eq]; omega
theorem line1M {n : Nat} (h : n ≤ 1000000) : n ≤ sizeLine := by rw [sizeLine_eq]; omega
theorem line1M' {n : Nat} (h : n < 1000000) : n < sizeLine := by rw [sizeLine_eq]; omega
/-- a new tuple as an object -/
theorem tup_new {X : Cx} {H : Hp} {h' : Heap} {xs : List V} {us : List Value} {o : Obj} {p : Addr} (e : h'.get? p = some o) (ho : o = { cls := .type "tuple", data := .seq us.toArray }) (r : Vals xs us) (z : xs.length ≤ sizeLine) : ObjOk X.prog X.w (upd H p (.frz o (.tup xs))) h' p (.frz o (.tup xs)) := by
  subst ho
  exact ⟨e, z, us, r, ⟨_, e, rfl, _, rfl⟩⟩
/-- a tuple is new -/
def NewT (Q : VK) (H : Hp) (xs : List V) : Prop := ∀ p o, H p = none → o.dict = none → Q (.ref p) (upd H p (.frz o (.tup xs)))
theorem pe_tupN {ta : TA} {x1} (h : PA X es ta) : PE X (.Tuple es x1 pos) (fun σ H Q => ta σ H fun xs H1 => xs.length ≤ sizeLine ∧ NewT Q H1 xs) := by
  refine ⟨fun pins s σ H Q I hq => ?_⟩
  refine wpAny_Tuple_spliced (thn (h.run pos pins s σ H _ I hq) fun us s1 ⟨xs, H1, I1, r, z, q⟩ => ⟨by rw [← r.length]; exact z, ?_⟩)
  have hf : H1 s1.heap.objs.size = none := I1.hok.fresh (Nat.le_refl _)
  exact ⟨.ref s1.heap.objs.size, _, I1.laid (t' := s1.toks) (fun b u e => Heap.get?_push_of_some _ e) (Nat.le_refl _) (tup_new (Heap.get?_push_size _ rfl) rfl r z), rfl, q _ _ hf rfl⟩
theorem de_tup {x1} (h : DA X T W es fs) : DE X T W (.Tuple es x1 pos) (dTup fs) := by
  refine PE.imp (pe_tupN h) fun σ H Q q => ?_
  obtain ⟨F, ε, k, p⟩ := q
  refine tDA_use (g := fun rs ε1 => vTup ε1 rs) k Ext.refl p fun vs F1 H1 rs ε1 k1 _ x1 q1 n1 nd p1 => ?_
  unfold vTup at p1
  split at p1
  · rename_i ds ε2 e1
    split at p1
    · rename_i hl
      obtain ⟨F2, k2, x2, r2, s2⟩ := frzs_ok x1 k1 q1 n1 nd e1
      exact ⟨line1000 (by rw [q1.length]; exact hl), fun p o hp ho => SE.newT k2 x2 p1 hp r2 ho⟩
    · exact p1.elim
  · exact p1.elim
theorem de_lst (h : DA X T W es fs) : DE X T W (.List es pos) (dLst fs) := by
  refine PE.imp (pe_lst h) fun σ H Q q => ?_
  obtain ⟨F, ε, k, p⟩ := q
  refine tDA_use (g := fun rs ε1 => vLst ε1 rs) k Ext.refl p fun vs F1 H1 rs ε1 k1 _ x1 q1 n1 nd p1 => ?_
  unfold vLst at p1
  split at p1
  · rename_i ds ε2 e1
    split at p1
    · rename_i hl
      obtain ⟨F2, k2, x2, r2, s2⟩ := frzs_ok x1 k1 q1 n1 nd e1
      exact ⟨line1000 (by rw [q1.length]; exact hl), fun p hp => SE.new k2 x2 p1 hp r2⟩
    · exact p1.elim
  · exact p1.elim

/-! ### statements -/
/-- how a statement ends -/
inductive Fl where
  | nx | bk | ct | rt (r : R)
/-- an outcome of a statement: the slots may be others, but those of P -/
def Ps {α : Type} (K : PySem.W.Frag) (T : Tab) (W : WX) (P : List Nat) (F H : Hp) (σ : L2.St) (ε : En) (o : O α) (S : α → En → Hp → Hp → L2.St → Prop) : Prop :=
  match o with
  | .bad => False
  | .ok a ε' => ∀ F' H' σ', Ok K T F' H' σ' ε' → Ext F H σ ε F' H' σ' ε' → (∀ i ∈ P, σ'[i]? = σ[i]?) → S a ε' F' H' σ'
  | .exn c ε' => ∀ F' H' σ', Ok K T F' H' σ' ε' → Ext F H σ ε F' H' σ' ε' → (∀ i ∈ P, σ'[i]? = σ[i]?) → W (.ref (T.cls c)) none σ' H'
theorem Ps.rebase {α : Type} {K : PySem.W.Frag} {P : List Nat} {F H F1 H1 : Hp} {σ σ1 : L2.St} {ε ε1 : En} {o : O α} {S : α → En → Hp → Hp → L2.St → Prop} (p : Ps K T W P F H σ ε o S) (x : Ext F H σ ε F1 H1 σ1 ε1) (hP : ∀ i ∈ P, σ1[i]? = σ[i]?) : Ps K T W P F1 H1 σ1 ε1 o S := by
  cases o with
  | bad => exact p
  | ok a ε' => exact fun F' H' σ' k y hy => p F' H' σ' k (x.trans y) fun i hi => (hy i hi).trans (hP i hi)
  | exn c ε' => exact fun F' H' σ' k y hy => p F' H' σ' k (x.trans y) fun i hi => (hy i hi).trans (hP i hi)
def SF (K : PySem.W.Frag) (T : Tab) (H : Hp) (D : Ends) : Fl → En → Hp → Hp → L2.St → Prop := fun fl ε' F' H' σ' =>
  match fl with
  | .nx => D.nx σ' H'
  | .bk => D.bk σ' H'
  | .ct => D.ct σ' H'
  | .rt r => ∀ v, RpR K T F' H' σ' ε' r v → (∀ a ∈ newA r v, H a = none) → D.rt v H'
theorem SF.imp {K : PySem.W.Frag} {H H1 : Hp} {D D1 : Ends} {fl : Fl} {ε' : En} {F' H' : Hp} {σ' : L2.St} (s : SF K T H D fl ε' F' H' σ') (h : ∀ a, H1 a = none → H a = none) (e1 : fl = .nx → D.nx σ' H' → D1.nx σ' H') (e2 : fl = .bk → D.bk σ' H' → D1.bk σ' H') (e3 : fl = .ct → D.ct σ' H' → D1.ct σ' H') (e4 : ∀ v, D.rt v H' → D1.rt v H') : SF K T H1 D1 fl ε' F' H' σ' := by
  cases fl with
  | nx => exact e1 rfl s
  | bk => exact e2 rfl s
  | ct => exact e3 rfl s
  | rt r => exact fun v hr hn => e4 v (s v hr fun a ha => h a (hn a ha))
theorem Ps.mono {α : Type} {K : PySem.W.Frag} {P : List Nat} {F H : Hp} {σ : L2.St} {ε : En} {o : O α} {S S' : α → En → Hp → Hp → L2.St → Prop} (p : Ps K T W P F H σ ε o S) (h : ∀ a ε' F' H' σ', Ok K T F' H' σ' ε' → Ext F H σ ε F' H' σ' ε' → (∀ i ∈ P, σ'[i]? = σ[i]?) → S a ε' F' H' σ' → S' a ε' F' H' σ') : Ps K T W P F H σ ε o S' := by
  cases o with
  | bad => exact p
  | ok a ε' => exact fun F' H' σ' k y hy => h _ _ _ _ _ k y hy (p F' H' σ' k y hy)
  | exn c ε' => exact p
def tDS (K : PySem.W.Frag) (T : Tab) (W : WX) (P : List Nat) (g : En → O Fl) : TS := fun D σ H => ∃ F ε, Ok K T F H σ ε ∧ Ps K T W P F H σ ε (g ε) (SF K T H D)
abbrev DS (X : Cx) (T : Tab) (W : WX) (P : List Nat) (st : Stmt) (g : En → O Fl) : Prop := PS X st (tDS X.K T W P g)
abbrev DSs (X : Cx) (T : Tab) (W : WX) (P : List Nat) (st : List Stmt) (g : En → O Fl) : Prop := PSs X st (tDS X.K T W P g)

/-- an expression, then the rest of a statement -/
theorem tD_useS {α : Type} {K : PySem.W.Frag} {P : List Nat} {g : R → En → O α} {F0 H0 F H : Hp} {σ0 σ : L2.St} {ε0 ε : En} {S : α → En → Hp → Hp → L2.St → Prop} {Q : VK} (k : Ok K T F H σ ε) (x0 : Ext F0 H0 σ0 ε0 F H σ ε) (hP : ∀ i ∈ P, σ[i]? = σ0[i]?) (p : Ps K T W P F0 H0 σ0 ε0 ((f ε).bind g) S)
    (h : ∀ v F1 H1 r ε1, Ok K T F1 H1 σ ε1 → Ext F H σ ε F1 H1 σ ε1 → Ext F0 H0 σ0 ε0 F1 H1 σ ε1 → RpR K T F1 H1 σ ε1 r v → (∀ a ∈ newA r v, H a = none) → Ps K T W P F0 H0 σ0 ε0 (g r ε1) S → Q v H1) : tD K T W f σ H Q := by
  refine ⟨F, ε, k, ?_⟩
  cases e : f ε with
  | bad => rw [e] at p; exact p
  | ok r ε1 =>
    rw [e] at p
    exact fun F1 H1 k1 x1 v hr hn => h v F1 H1 r ε1 k1 x1 (x0.trans x1) hr hn p
  | exn c ε1 =>
    rw [e] at p
    exact fun F1 H1 k1 x1 => p F1 H1 σ k1 (x0.trans x1) hP
theorem tDT_useS {α : Type} {K : PySem.W.Frag} {P : List Nat} {ft : En → O Bool} {g : Bool → En → O α} {F0 H0 F H : Hp} {σ0 σ : L2.St} {ε0 ε : En} {S : α → En → Hp → Hp → L2.St → Prop} {Q : Bool → Hp → Prop} (k : Ok K T F H σ ε) (x0 : Ext F0 H0 σ0 ε0 F H σ ε) (hP : ∀ i ∈ P, σ[i]? = σ0[i]?) (p : Ps K T W P F0 H0 σ0 ε0 ((ft ε).bind g) S)
    (h : ∀ b F1 H1 ε1, Ok K T F1 H1 σ ε1 → Ext F H σ ε F1 H1 σ ε1 → Ext F0 H0 σ0 ε0 F1 H1 σ ε1 → Ps K T W P F0 H0 σ0 ε0 (g b ε1) S → Q b H1) : tDT K T W ft σ H Q := by
  refine ⟨F, ε, k, ?_⟩
  cases e : ft ε with
  | bad => rw [e] at p; exact p
  | ok b ε1 =>
    rw [e] at p
    exact fun F1 H1 k1 x1 => h b F1 H1 ε1 k1 x1 (x0.trans x1) p
  | exn c ε1 =>
    rw [e] at p
    exact fun F1 H1 k1 x1 => p F1 H1 σ k1 (x0.trans x1) hP
theorem tDA_useS {α : Type} {K : PySem.W.Frag} {P : List Nat} {g : List R → En → O α} {F0 H0 F H : Hp} {σ0 σ : L2.St} {ε0 ε : En} {S : α → En → Hp → Hp → L2.St → Prop} {Q : List V → Hp → Prop} (k : Ok K T F H σ ε) (x0 : Ext F0 H0 σ0 ε0 F H σ ε) (hP : ∀ i ∈ P, σ[i]? = σ0[i]?) (p : Ps K T W P F0 H0 σ0 ε0 ((fs ε).bind g) S)
    (h : ∀ vs F1 H1 rs ε1, Ok K T F1 H1 σ ε1 → Ext F H σ ε F1 H1 σ ε1 → Ext F0 H0 σ0 ε0 F1 H1 σ ε1 → RpRs K T F1 H1 σ ε1 rs vs → (∀ a ∈ newAs rs vs, H a = none) → (newAs rs vs).Nodup → Ps K T W P F0 H0 σ0 ε0 (g rs ε1) S → Q vs H1) : tDA K T W fs σ H Q := by
  refine ⟨F, ε, k, ?_⟩
  cases e : fs ε with
  | bad => rw [e] at p; exact p
  | ok r ε1 =>
    rw [e] at p
    exact fun F1 H1 k1 x1 v hr hn nd => h v F1 H1 r ε1 k1 x1 (x0.trans x1) hr hn nd p
  | exn c ε1 =>
    rw [e] at p
    exact fun F1 H1 k1 x1 => p F1 H1 σ k1 (x0.trans x1) hP

variable {P : List Nat} {st : Stmt} {sts : List Stmt} {g g1 g2 : En → O Fl}
def dSkip : En → O Fl := fun ε => .ok .nx ε
def vSeq (g2 : En → O Fl) (fl : Fl) (ε : En) : O Fl :=
  match fl with
  | .nx => g2 ε
  | _ => .ok fl ε
def dSeq (g1 g2 : En → O Fl) : En → O Fl := fun ε => (g1 ε).bind (vSeq g2)
theorem dss_nil : DSs X T W P [] dSkip := by
  refine PSs.imp pss_nil fun D σ H q => ?_
  obtain ⟨F, ε, k, p⟩ := q
  exact p F H σ k Ext.refl fun _ _ => rfl
theorem ds_pass : DS X T W P (.Pass pos) dSkip := by
  refine PS.imp ps_pass fun D σ H q => ?_
  obtain ⟨F, ε, k, p⟩ := q
  exact p F H σ k Ext.refl fun _ _ => rfl
theorem ds_break : DS X T W P (.Break pos) (fun ε => .ok .bk ε) := by
  refine PS.imp ps_break fun D σ H q => ?_
  obtain ⟨F, ε, k, p⟩ := q
  exact p F H σ k Ext.refl fun _ _ => rfl
theorem ds_cont : DS X T W P (.Continue pos) (fun ε => .ok .ct ε) := by
  refine PS.imp ps_continue fun D σ H q => ?_
  obtain ⟨F, ε, k, p⟩ := q
  exact p F H σ k Ext.refl fun _ _ => rfl
theorem dss_cons (h1 : DS X T W P st g1) (h2 : DSs X T W P sts g2) : DSs X T W P (st :: sts) (dSeq g1 g2) := by
  refine PSs.imp (pss_cons h1 h2) fun D σ H q => ?_
  obtain ⟨F, ε, k, p⟩ := q
  refine ⟨F, ε, k, ?_⟩
  unfold dSeq at p
  cases e : g1 ε with
  | bad => rw [e] at p; exact p
  | ok fl ε1 =>
    rw [e] at p
    intro F1 H1 σ1 k1 x1 hP
    cases fl with
    | nx => exact ⟨F1, ε1, k1, (Ps.rebase p x1 hP).mono fun a ε' F' H' σ' _ _ _ s => s.imp (fun a ha => x1.ht a ha) (fun _ z => z) (fun _ z => z) (fun _ z => z) (fun _ z => z)⟩
    | bk => exact p F1 H1 σ1 k1 x1 hP
    | ct => exact p F1 H1 σ1 k1 x1 hP
    | rt r => exact p F1 H1 σ1 k1 x1 hP
  | exn c ε1 => rw [e] at p; exact p
theorem dss_one (h1 : DS X T W P st g1) : DSs X T W P [st] g1 := pss_one h1
/-- if -/
def dIf (ft : En → O Bool) (g1 g2 : En → O Fl) : En → O Fl := fun ε => (ft ε).bind fun b ε1 => if b = true then g1 ε1 else g2 ε1
theorem ds_if {ft : En → O Bool} {sa sb : List Stmt} (hc : DT X T W c ft) (ha : DSs X T W P sa g1) (hb : DSs X T W P sb g2) : DS X T W P (.If c sa sb pos) (dIf ft g1 g2) := by
  refine PS.imp (ps_if hc ha hb) fun D σ H q => ?_
  obtain ⟨F, ε, k, p⟩ := q
  refine tDT_useS (g := fun b ε1 => if b = true then g1 ε1 else g2 ε1) k Ext.refl (fun _ _ => rfl) p fun b F1 H1 ε1 k1 x1 _ p1 => ?_
  have p2 := (Ps.rebase p1 x1 fun _ _ => rfl).mono fun a ε' F' H' σ' _ _ _ s => s.imp (H1 := H1) (D1 := D) (fun a ha => x1.ht a ha) (fun _ z => z) (fun _ z => z) (fun _ z => z) (fun _ z => z)
  cases b with
  | true => exact ⟨F1, ε1, k1, p2⟩
  | false => exact ⟨F1, ε1, k1, p2⟩
/-- return -/
def dRet (f : En → O R) : En → O Fl := fun ε => (f ε).bind fun r ε1 => .ok (.rt r) ε1
theorem ds_ret (he : DE X T W e f) : DS X T W P (.Return (some e) pos) (dRet f) := by
  refine PS.imp (ps_ret he) fun D σ H q => ?_
  obtain ⟨F, ε, k, p⟩ := q
  refine tD_useS (g := fun r ε1 => O.ok (Fl.rt r) ε1) (S := SF X.K T H D) k Ext.refl (fun _ _ => rfl) p fun v F1 H1 r ε1 k1 x1 _ q1 n1 p1 => ?_
  exact p1 F1 H1 σ k1 x1 (fun _ _ => rfl) v q1 n1
theorem ds_retN : DS X T W P (.Return none pos) (fun ε => .ok (.rt (.fz .non)) ε) := by
  refine PS.imp ps_retN fun D σ H q => ?_
  obtain ⟨F, ε, k, p⟩ := q
  exact p F H σ k Ext.refl (fun _ _ => rfl) .non (show Rp X.K T F .non .non from rp_non.mpr rfl) (by simp [newA])
/-- an expression whose value is dropped -/
def dDrop (f : En → O R) : En → O Fl := fun ε => (f ε).bind fun _ ε1 => .ok .nx ε1
theorem ds_expr (he : DE X T W e f) (hs : swapsWith e none pos.line X.env = pure false := by rfl) : DS X T W P (.Expr e pos) (dDrop f) := by
  refine PS.imp (ps_expr he hs) fun D σ H q => ?_
  obtain ⟨F, ε, k, p⟩ := q
  refine tD_useS (g := fun r ε1 => O.ok Fl.nx ε1) (S := SF X.K T H D) k Ext.refl (fun _ _ => rfl) p fun v F1 H1 r ε1 k1 x1 _ q1 n1 p1 => ?_
  exact p1 F1 H1 σ k1 x1 (fun _ _ => rfl)
end
end DL

/-! DL4: stores, targets, loops, comprehensions -/
namespace DL
open PySem PySem.Spec PyProof.Rows L2

section
variable {K : PySem.W.Frag} {T : Tab} {W : WX} {F0 H0 F H F' H' : Hp} {σ0 σ : L2.St} {ε0 ε ε' : En} {i : Nat} {d : D} {v : V}
theorem own_setF {a : Addr} (h : OwnAt (σ.set i (some v)) (ε.set i (.fz d)) a) : OwnAt σ ε a := by
  obtain ⟨j, d', e, s⟩ := h
  by_cases hj : i = j
  · subst hj
    by_cases hl : i < ε.length
    · rw [List.getElem?_set_self hl] at e; cases e
    · rw [List.getElem?_eq_none (by rw [List.length_set]; omega)] at e; cases e
  · rw [List.getElem?_set_ne hj] at e s
    exact ⟨j, d', e, s⟩
theorem ok_setF (k : Ok K T F H σ ε) (r : Rp K T F d v) : Ok K T F H (σ.set i (some v)) (ε.set i (.fz d)) where
  sub := k.sub
  len := by rw [List.length_set, List.length_set]; exact k.len
  fz := fun j d' e => by
    by_cases hj : i = j
    · subst hj
      by_cases hl : i < ε.length
      · rw [List.getElem?_set_self hl] at e
        cases e
        exact ⟨v, by rw [List.getElem?_set_self (by rw [k.len]; exact hl)], r⟩
      · rw [List.getElem?_eq_none (by rw [List.length_set]; omega)] at e; cases e
    · rw [List.getElem?_set_ne hj] at e
      rw [List.getElem?_set_ne hj]
      exact k.fz j d' e
  own := fun j d' e => by
    by_cases hj : i = j
    · subst hj
      by_cases hl : i < ε.length
      · rw [List.getElem?_set_self hl] at e; cases e
      · rw [List.getElem?_eq_none (by rw [List.length_set]; omega)] at e; cases e
    · rw [List.getElem?_set_ne hj] at e
      rw [List.getElem?_set_ne hj]
      exact k.own j d' e
  sep := fun j1 j2 d1 d2 a e1 e2 s1 s2 => by
    have get : ∀ {j : Nat} {d1 : D}, (ε.set i (.fz d))[j]? = some (.own d1) → i ≠ j ∧ ε[j]? = some (.own d1) := fun {j d1} ej => by
      by_cases hj : i = j
      · subst hj
        by_cases hl : i < ε.length
        · rw [List.getElem?_set_self hl] at ej; cases ej
        · rw [List.getElem?_eq_none (by rw [List.length_set]; omega)] at ej; cases ej
      · rw [List.getElem?_set_ne hj] at ej
        exact ⟨hj, ej⟩
    obtain ⟨n1, f1⟩ := get e1
    obtain ⟨n2, f2⟩ := get e2
    rw [List.getElem?_set_ne n1] at s1
    rw [List.getElem?_set_ne n2] at s2
    exact k.sep j1 j2 d1 d2 a f1 f2 s1 s2
theorem Ext.setF (x : Ext F0 H0 σ0 ε0 F H σ ε) : Ext F0 H0 σ0 ε0 F H (σ.set i (some v)) (ε.set i (.fz d)) :=
  ⟨x.fs, x.hk, x.ht, x.fn, fun a h => x.on a (own_setF h)⟩
theorem own_setN {a b : Addr} (h : OwnAt (σ.set i (some (.ref b))) (ε.set i (.own d)) a) : OwnAt σ ε a ∨ a = b := by
  obtain ⟨j, d', e, s⟩ := h
  by_cases hj : i = j
  · subst hj
    by_cases hl : i < σ.length
    · rw [List.getElem?_set_self hl] at s
      cases s
      exact .inr rfl
    · rw [List.getElem?_eq_none (by rw [List.length_set]; omega)] at s; cases s
  · rw [List.getElem?_set_ne hj] at e s
    exact .inl ⟨j, d', e, s⟩
theorem ok_setN {a : Addr} {o : HO} (k : Ok K T F H σ ε) (f : F a = none) (g : H a = some o) (r : RpO K T F d o) (n : ¬ OwnAt σ ε a) : Ok K T F H (σ.set i (some (.ref a))) (ε.set i (.own d)) where
  sub := k.sub
  len := by rw [List.length_set, List.length_set]; exact k.len
  fz := fun j d' e => by
    by_cases hj : i = j
    · subst hj
      by_cases hl : i < ε.length
      · rw [List.getElem?_set_self hl] at e; cases e
      · rw [List.getElem?_eq_none (by rw [List.length_set]; omega)] at e; cases e
    · rw [List.getElem?_set_ne hj] at e
      rw [List.getElem?_set_ne hj]
      exact k.fz j d' e
  own := fun j d' e => by
    by_cases hj : i = j
    · subst hj
      by_cases hl : i < ε.length
      · rw [List.getElem?_set_self hl] at e
        cases e
        exact ⟨a, o, by rw [List.getElem?_set_self (by rw [k.len]; exact hl)], f, g, r⟩
      · rw [List.getElem?_eq_none (by rw [List.length_set]; omega)] at e; cases e
    · rw [List.getElem?_set_ne hj] at e
      rw [List.getElem?_set_ne hj]
      exact k.own j d' e
  sep := fun j1 j2 d1 d2 b e1 e2 s1 s2 => by
    by_cases h1 : i = j1
    · by_cases h2 : i = j2
      · exact h1.symm.trans h2
      · subst h1
        rw [List.getElem?_set_ne h2] at e2 s2
        by_cases hl : i < σ.length
        · rw [List.getElem?_set_self hl] at s1
          cases s1
          exact absurd ⟨j2, d2, e2, s2⟩ n
        · rw [List.getElem?_eq_none (by rw [List.length_set]; omega)] at s1; cases s1
    · rw [List.getElem?_set_ne h1] at e1 s1
      by_cases h2 : i = j2
      · subst h2
        by_cases hl : i < σ.length
        · rw [List.getElem?_set_self hl] at s2
          cases s2
          exact absurd ⟨j1, d1, e1, s1⟩ n
        · rw [List.getElem?_eq_none (by rw [List.length_set]; omega)] at s2; cases s2
      · rw [List.getElem?_set_ne h2] at e2 s2
        exact k.sep j1 j2 d1 d2 b e1 e2 s1 s2
theorem Ext.setN {a : Addr} (x : Ext F0 H0 σ0 ε0 F H σ ε) (h0 : H0 a = none) : Ext F0 H0 σ0 ε0 F H (σ.set i (some (.ref a))) (ε.set i (.own d)) :=
  ⟨x.fs, x.hk, x.ht, x.fn, fun b h => (own_setN h).elim (fun z => x.on b z) fun z => .inr (z ▸ h0)⟩
/-- a result is stored at slot i -/
def vSto (i : Nat) (ε : En) : R → Option En
  | .fz d => some (ε.set i (.fz d))
  | .new d => some (ε.set i (.own d))
  | .at j => match frz ε (.at j) with
    | some (d, ε1) => some (ε1.set i (.fz d))
    | none => none
theorem sto_ok {r : R} (x : Ext F0 H0 σ0 ε0 F H σ ε) (k : Ok K T F H σ ε) (h : RpR K T F H σ ε r v) (hn : ∀ a ∈ newA r v, H0 a = none) (e : vSto i ε r = some ε') :
    ∃ F', Ok K T F' H (σ.set i (some v)) ε' ∧ Ext F0 H0 σ0 ε0 F' H (σ.set i (some v)) ε' ∧ Same F F' := by
  cases r with
  | fz d => cases e; exact ⟨F, ok_setF k h, x.setF, Same.refl _⟩
  | new d =>
    cases e
    obtain ⟨a, o, rfl, f, g, q, n⟩ := h
    exact ⟨F, ok_setN k f g q n, x.setN (hn a (by simp [newA])), Same.refl _⟩
  | «at» j =>
    have e : (match frz ε (.at j) with | some (d, ε1) => some (ε1.set i (.fz d)) | none => none) = some ε' := e
    cases e1 : frz ε (.at j) with
    | none => rw [e1] at e; cases e
    | some p =>
      obtain ⟨d, ε1⟩ := p
      rw [e1] at e
      cases e
      obtain ⟨F1, k1, x1, r1, s1, _, _⟩ := frz_ok x k h hn e1
      exact ⟨F1, ok_setF k1 r1, x1.setF, s1⟩

/-- the heap grows by things that never change -/
theorem ok_grow (k : Ok K T F H σ ε) (s1 : Same F F') (s2 : Same F' H') (s3 : Same H H') (fr : ∀ a, F' a ≠ none → F a ≠ none ∨ H a = none) : Ok K T F' H' σ ε where
  sub := s2
  len := k.len
  fz := fun i d e => by
    obtain ⟨v, e1, r⟩ := k.fz i d e
    exact ⟨v, e1, Rp.mono s1 _ _ r⟩
  own := fun i d e => by
    obtain ⟨a, o, e1, f, g, r⟩ := k.own i d e
    refine ⟨a, o, e1, ?_, s3 _ _ g, r.mono s1⟩
    cases h : F' a with
    | none => rfl
    | some u =>
      rcases fr a (by rw [h]; simp) with z | z
      · exact absurd f z
      · rw [g] at z; cases z
  sep := k.sep
theorem Ext.grow (x : Ext F0 H0 σ0 ε0 F H σ ε) (s1 : Same F F') (s3 : Same H H') (fr : ∀ a, F' a ≠ none → F a ≠ none ∨ H a = none) : Ext F0 H0 σ0 ε0 F' H' σ ε where
  fs := x.fs.trans s1
  hk := fun a o e n => s3 _ _ (x.hk a o e n)
  ht := fun a e => x.ht a (s3.free e)
  fn := fun a e => (fr a e).elim (x.fn a) fun z => .inr (.inl (x.ht a z))
  on := x.on
end

section
variable {X : Cx} {T : Tab} {W : WX} {e a b c tg iter : Expr} {es : List Expr} {f fa fb fc : En → O R} {fs : En → O (List R)} {pos : Pos} {P tgs tgs1 tgs2 : List Nat} {g : En → O Fl}

/-- name = e -/
def vSet (i : Nat) (ε : En) (r : R) : O Fl :=
  match vSto i ε r with
  | some ε' => .ok .nx ε'
  | none => .bad
def dSet (i : Nat) (f : En → O R) : En → O Fl := fun ε => (f ε).bind fun r ε1 => vSet i ε1 r
theorem p_set {σ : L2.St} {i : Nat} {v : V} (hi : i ∉ P) : ∀ j ∈ P, (σ.set i (some v))[j]? = σ[j]? := fun j hj => by
  rw [List.getElem?_set_ne (fun e => hi (by rw [e]; exact hj))]
theorem set_use {i : Nat} {te : TE} {D : Ends} {σ : L2.St} {H : Hp} (hi : i ∉ P) (q : tDS X.K T W P (dSet i f) D σ H) : tAsg (tD X.K T W f) (gName i) D σ H := by
  obtain ⟨F, ε, k, p⟩ := q
  refine tD_useS (g := fun r ε1 => vSet i ε1 r) (S := SF X.K T H D) k Ext.refl (fun _ _ => rfl) p fun v F1 H1 r ε1 k1 x1 _ q1 n1 p1 => ?_
  unfold vSet at p1
  cases e1 : vSto i ε1 r with
  | none => rw [e1] at p1; exact p1.elim
  | some ε2 =>
    rw [e1] at p1
    obtain ⟨F2, k2, x2, s2⟩ := sto_ok x1 k1 q1 n1 e1
    exact p1 F2 H1 _ k2 x2 (p_set hi)
theorem ds_set {i : Nat} {x : Str} {pos' : Pos} (hN : X.N.Nodup) (he : DE X T W e f) (hi : X.N[i]? = some x := by rfl) (hx : Loc X.env.scope x := by first | exact Or.inl rfl | exact Or.inr rfl) (hP : i ∉ P := by decide) (hs : swapsWith e (some (.Name x pos')) pos.line X.env = pure false := by rfl)
    (hf : X.fn x = true ∨ X.env.scope.names.lookup x = some .local := by first | exact .inl rfl | exact .inr rfl) : DS X T W P (.Assign [.Name x pos'] e pos) (dSet i f) :=
  PS.imp (ps_set hN hi hx he hs hf) fun D σ H q => set_use (te := tD X.K T W f) hP q

/-! ### targets -/
/-- a datum is given to a target: the slots then; tgs: the slots that are stored -/
def tDG (K : PySem.W.Frag) (T : Tab) (tgs : List Nat) (g : D → En → Option En) : TG := fun v σ H Q => ∃ F ε d ε', Ok K T F H σ ε ∧ Rp K T F d v ∧ g d ε = some ε' ∧
  ∀ F' H' σ', Ok K T F' H' σ' ε' → Ext F H σ ε F' H' σ' ε' → (∀ j, j ∉ tgs → σ'[j]? = σ[j]?) → σ'.length = σ.length → Q σ' H'
def tDGs (K : PySem.W.Frag) (T : Tab) (tgs : List Nat) (g : List D → En → Option En) : TGs := fun vs σ H Q => ∃ F ε ds ε', Ok K T F H σ ε ∧ Rps K T F ds vs ∧ g ds ε = some ε' ∧
  ∀ F' H' σ', Ok K T F' H' σ' ε' → Ext F H σ ε F' H' σ' ε' → (∀ j, j ∉ tgs → σ'[j]? = σ[j]?) → σ'.length = σ.length → Q σ' H'
abbrev DG (X : Cx) (T : Tab) (tgs : List Nat) (tg : Expr) (g : D → En → Option En) : Prop := PG X tg (tDG X.K T tgs g)
abbrev DGs (X : Cx) (T : Tab) (tgs : List Nat) (tg : List Expr) (g : List D → En → Option En) : Prop := PGs X tg (tDGs X.K T tgs g)
theorem PG.imp {t t' : TG} (h : PG X tg t) (w : ∀ v σ H Q, t' v σ H Q → t v σ H Q) : PG X tg t' := ⟨fun pins s σ H v u Q I r q => h.run pins s σ H v u Q I r (w v σ H Q q)⟩
theorem PGs.imp {t t' : TGs} (h : PGs X es t) (w : ∀ v σ H Q, t' v σ H Q → t v σ H Q) : PGs X es t' := ⟨fun pins s σ H v u Q I r q => h.run pins s σ H v u Q I r (w v σ H Q q)⟩
def gN (i : Nat) : D → En → Option En := fun d ε => some (ε.set i (.fz d))
theorem dg_name {i : Nat} {x : Str} (hN : X.N.Nodup) (hi : X.N[i]? = some x := by rfl) (hx : Loc X.env.scope x := by first | exact Or.inl rfl | exact Or.inr rfl) (hf : X.fn x = true ∨ X.env.scope.names.lookup x = some .local := by first | exact .inl rfl | exact .inr rfl) : DG X T [i] (.Name x pos) (gN i) := by
  refine PG.imp (pg_name hN hi hx hf) fun v σ H Q q => ?_
  obtain ⟨F, ε, d, ε', k, r, e, q⟩ := q
  cases e
  refine q F H _ (ok_setF k r) Ext.refl.setF (fun j hj => ?_) (by rw [List.length_set])
  rw [List.getElem?_set_ne (fun e => hj (by simp [e]))]
def gNil : List D → En → Option En
  | [], ε => some ε
  | _, _ => none
def gCons (g : D → En → Option En) (gs : List D → En → Option En) : List D → En → Option En
  | d :: ds, ε => match g d ε with
    | some ε1 => gs ds ε1
    | none => none
  | _, _ => none
theorem dgs_nil : DGs X T [] [] gNil := by
  refine PGs.imp pgs_nil fun vs σ H Q q => ?_
  obtain ⟨F, ε, ds, ε', k, r, e, q⟩ := q
  cases ds with
  | nil => cases e; exact ⟨rps_nil.mp r, q F H σ k Ext.refl (fun _ _ => rfl) rfl⟩
  | cons d ds => cases e
theorem dgs_cons {g1 : D → En → Option En} {g2 : List D → En → Option En} (h1 : DG X T tgs1 e g1) (h2 : DGs X T tgs2 es g2) (hs : (assignEach (e :: es) X.env).map (·.2) = assign e X.env :: (assignEach es X.env).map (·.2) := by rfl) : DGs X T (tgs1 ++ tgs2) (e :: es) (gCons g1 g2) := by
  refine PGs.imp (pgs_cons h1 h2 hs) fun vs σ H Q q => ?_
  obtain ⟨F, ε, ds, ε', k, r, e, q⟩ := q
  cases ds with
  | nil => cases e
  | cons d ds =>
    obtain ⟨v, w, rfl, r1, r2⟩ := rps_cons.mp r
    have e : (match g1 d ε with | some ε1 => g2 ds ε1 | none => none) = some ε' := e
    cases e1 : g1 d ε with
    | none => rw [e1] at e; cases e
    | some ε1 =>
      rw [e1] at e
      refine ⟨v, w, rfl, F, ε, d, ε1, k, r1, e1, fun F1 H1 σ1 k1 x1 hj1 hl1 => ?_⟩
      refine ⟨F1, ε1, ds, ε', k1, Rps.mono x1.fs _ _ r2, e, fun F2 H2 σ2 k2 x2 hj2 hl2 => ?_⟩
      exact q F2 H2 σ2 k2 (x1.trans x2) (fun j hj => (hj2 j fun z => hj (List.mem_append_right _ z)).trans (hj1 j fun z => hj (List.mem_append_left _ z))) (hl2.trans hl1)
def gTupD (n : Nat) (gs : List D → En → Option En) : D → En → Option En
  | .tup ds, ε => if ds.length = n then gs ds ε else none
  | _, _ => none
theorem dg_tup {k n : Nat} {gs : List D → En → Option En} (hc : X.calm = true) (h : DGs X T tgs es gs) (hn : (assignEach es X.env).length = n := by rfl) (hst : (assignEach es X.env).findIdx? (·.1) = none := by rfl) : DG X T tgs (.Tuple es k pos) (gTupD n gs) := by
  refine PG.imp (pg_tup hc h hn hst) fun v σ H Q q => ?_
  obtain ⟨F, ε, d, ε', k, r, e, q⟩ := q
  cases d with
  | tup ds =>
    have e : (if ds.length = n then gs ds ε else none) = some ε' := e
    by_cases hl : ds.length = n
    · rw [if_pos hl] at e
      obtain ⟨a, vs, rfl, hq, hr⟩ := rp_tupT r
      exact ⟨a, vs, rfl, sqT_mono k.sub hq, by rw [hr.length]; exact hl, F, ε, ds, ε', k, hr, e, q⟩
    · rw [if_neg hl] at e; cases e
  | _ => cases e
/-- target = e -/
def vAsg (g : D → En → Option En) (ε : En) (r : R) : O Fl :=
  match frz ε r with
  | some (d, ε1) => match g d ε1 with
    | some ε2 => .ok .nx ε2
    | none => .bad
  | none => .bad
def dAsg (g : D → En → Option En) (f : En → O R) : En → O Fl := fun ε => (f ε).bind fun r ε1 => vAsg g ε1 r
theorem asg_use {gg : D → En → Option En} {D : Ends} {σ : L2.St} {H : Hp} (hP : ∀ j ∈ P, j ∉ tgs) (q : tDS X.K T W P (dAsg gg f) D σ H) : tAsg (tD X.K T W f) (tDG X.K T tgs gg) D σ H := by
  obtain ⟨F, ε, k, p⟩ := q
  refine tD_useS (g := fun r ε1 => vAsg gg ε1 r) (S := SF X.K T H D) k Ext.refl (fun _ _ => rfl) p fun v F1 H1 r ε1 k1 x1 _ q1 n1 p1 => ?_
  unfold vAsg at p1
  cases e1 : frz ε1 r with
  | none => rw [e1] at p1; exact p1.elim
  | some z =>
    obtain ⟨d, ε2⟩ := z
    simp only [e1] at p1
    cases e2 : gg d ε2 with
    | none => rw [e2] at p1; exact p1.elim
    | some ε3 =>
      rw [e2] at p1
      obtain ⟨F2, k2, x2, r2, _, _, _⟩ := frz_ok x1 k1 q1 n1 e1
      exact ⟨F2, ε2, d, ε3, k2, r2, e2, fun F3 H3 σ3 k3 x3 hj _ => p1 F3 H3 σ3 k3 (x2.trans x3) fun j hj' => hj j (hP j hj')⟩
theorem ds_asg {gg : D → En → Option En} (he : DE X T W e f) (hg : DG X T tgs tg gg) (hP : ∀ j ∈ P, j ∉ tgs := by decide) (hs : swapsWithSole [tg] e pos.line X.env = pure false := by rfl) (hw : swappedStores [tg] e X.env = pure none := by rfl)
    (h1 : (assignEach [tg] X.env).map (·.2) = [assign tg X.env] := by rfl) : DS X T W P (.Assign [tg] e pos) (dAsg gg f) :=
  PS.imp (ps_asg he hg hs hw h1) fun D σ H q => asg_use hP q

/-! ### what is walked -/
/-- J gives ds, one by one, whatever else changes -/
def YJ (K : PySem.W.Frag) (T : Tab) (F : Hp) (J : It) (ds : List D) : Prop := ∀ F1 H1, Same F F1 → Same F1 H1 →
  (∀ i, i < ds.length → J.go i H1 ∧ ∀ x H2, J.yld i H1 x H2 → ∃ F2 d, Same F1 F2 ∧ Same F2 H2 ∧ Same H1 H2 ∧ (∀ a, F2 a ≠ none → F1 a ≠ none ∨ H1 a = none) ∧ ds[i]? = some d ∧ Rp K T F2 d x) ∧ J.stop ds.length H1
def tDI (K : PySem.W.Frag) (T : Tab) (W : WX) (f : En → O (List D)) : TI := fun σ H R => ∃ F ε, Ok K T F H σ ε ∧ Po K T W F H σ ε (f ε) (fun ds _ F' H' => ∀ J, YJ K T F' J ds → R J H')
abbrev DI (X : Cx) (T : Tab) (W : WX) (tg iter : Expr) (f : En → O (List D)) : Prop := PI X tg iter (tDI X.K T W f)
theorem PI.imp {t t' : TI} (h : PI X tg iter t) (w : ∀ σ H R, t' σ H R → t σ H R) : PI X tg iter t' := ⟨fun pins s σ H R I q => h.run pins s σ H R I (w σ H R q)⟩

/-! ### for -/
def vTurn (k : En → O Fl) (fl : Fl) (ε : En) : O Fl :=
  match fl with
  | .nx => k ε
  | .ct => k ε
  | .bk => .ok .nx ε
  | .rt r => .ok (.rt r) ε
def dLoop (gg : D → En → Option En) (b : En → O Fl) : List D → En → O Fl
  | [], ε => .ok .nx ε
  | d :: ds, ε => match gg d ε with
    | some ε1 => (b ε1).bind (vTurn (dLoop gg b ds))
    | none => .bad
def dFor (fi : En → O (List D)) (gg : D → En → Option En) (b : En → O Fl) : En → O Fl := fun ε => (fi ε).bind fun ds ε1 => dLoop gg b ds ε1
theorem ds_for {body : List Stmt} {fi : En → O (List D)} {gg : D → En → Option En} (hp : PassesOwn (model X.prog X.w) X.A X.env X.xe) (hc : X.calm = true) (hi : DI X T W tg iter fi) (hg : DG X T tgs tg gg) (hb : DSs X T W P body g) (hP : ∀ j ∈ P, j ∉ tgs := by decide)
    (hs : ∀ x, foldedSetIterable iter X.env x = pure x := by intro _; rfl) : DS X T W P (.For tg iter body [] pos) (dFor fi gg g) := by
  refine PS.imp (ps_for hp hc hi hg hb hs) fun D σ H q => ?_
  obtain ⟨F, ε, k, p⟩ := q
  refine ⟨F, ε, k, ?_⟩
  unfold dFor at p
  cases e : fi ε with
  | bad => rw [e] at p; exact p
  | exn c ε1 =>
    rw [e] at p
    exact fun F1 H1 k1 x1 => p F1 H1 σ k1 x1 fun _ _ => rfl
  | ok ds ε1 =>
    rw [e] at p
    have p : Ps X.K T W P F H σ ε (dLoop gg g ds ε1) (SF X.K T H D) := p
    intro F1 H1 k1 x1 J yj
    refine ⟨fun i m σ2 H2 => m = ds.length - i ∧ i ≤ ds.length ∧ ∃ F2 ε2, Ok X.K T F2 H2 σ2 ε2 ∧ Ext F H σ ε F2 H2 σ2 ε2 ∧ (∀ j ∈ P, σ2[j]? = σ[j]?) ∧ Same F1 F2 ∧ Ps X.K T W P F H σ ε (dLoop gg g (ds.drop i) ε2) (SF X.K T H D), ⟨ds.length, by simp, Nat.zero_le _, F1, ε1, k1, x1, fun _ _ => rfl, Same.refl _, p⟩, ?_⟩
    rintro i m σ2 H2 ⟨rfl, hi', F2, ε2, k2, x2, hP2, s2, p2⟩
    obtain ⟨y1, y2⟩ := yj F2 H2 s2 k2.sub
    by_cases hlt : i < ds.length
    · right
      obtain ⟨go, y1⟩ := y1 i hlt
      refine ⟨go, fun σ3 H3 => ∃ F3 ε3, Ok X.K T F3 H3 σ3 ε3 ∧ Ext F H σ ε F3 H3 σ3 ε3 ∧ (∀ j ∈ P, σ3[j]? = σ[j]?) ∧ Same F1 F3 ∧ Ps X.K T W P F H σ ε (dLoop gg g (ds.drop (i + 1)) ε3) (SF X.K T H D), fun σ' H' ⟨F3, ε3, z⟩ => ⟨ds.length - (i + 1), by omega, rfl, hlt, F3, ε3, z⟩, fun x H3 hy => ?_⟩
      obtain ⟨F3, d, s3, s4, s5, fr, ed, rd⟩ := y1 x H3 hy
      have hdrop : ds.drop i = d :: ds.drop (i + 1) := by
        rw [List.drop_eq_getElem_cons hlt]
        congr 1
        rw [List.getElem?_eq_getElem hlt] at ed
        exact Option.some.inj ed
      rw [hdrop] at p2
      have p2 : Ps X.K T W P F H σ ε (match gg d ε2 with | some ε1 => (g ε1).bind (vTurn (dLoop gg g (ds.drop (i + 1)))) | none => .bad) (SF X.K T H D) := p2
      cases e3 : gg d ε2 with
      | none => rw [e3] at p2; exact p2.elim
      | some ε3 =>
        rw [e3] at p2
        have p2 : Ps X.K T W P F H σ ε ((g ε3).bind (vTurn (dLoop gg g (ds.drop (i + 1))))) (SF X.K T H D) := p2
        have k3 := ok_grow k2 s3 s4 s5 fr
        have x3 := x2.grow s3 s5 fr
        refine ⟨F3, ε2, d, ε3, k3, rd, e3, fun F4 H4 σ4 k4 x4 hj _ => ?_⟩
        have x5 := x3.trans x4
        have hP4 : ∀ j ∈ P, σ4[j]? = σ[j]? := fun j hj' => (hj j (hP j hj')).trans (hP2 j hj')
        refine ⟨F4, ε3, k4, ?_⟩
        have s14 : Same F1 F4 := s2.trans (s3.trans x4.fs)
        cases e4 : g ε3 with
        | bad => rw [e4] at p2; exact p2
        | exn c ε4 =>
          rw [e4] at p2
          exact fun F5 H5 σ5 k5 x6 hP5 => p2 F5 H5 σ5 k5 (x5.trans x6) fun j hj => (hP5 j hj).trans (hP4 j hj)
        | ok fl ε4 =>
          rw [e4] at p2
          intro F5 H5 σ5 k5 x6 hP5
          have hP6 : ∀ j ∈ P, σ5[j]? = σ[j]? := fun j hj => (hP5 j hj).trans (hP4 j hj)
          cases fl with
          | nx => exact ⟨F5, ε4, k5, x5.trans x6, hP6, s14.trans x6.fs, p2⟩
          | ct => exact ⟨F5, ε4, k5, x5.trans x6, hP6, s14.trans x6.fs, p2⟩
          | bk => exact p2 F5 H5 σ5 k5 (x5.trans x6) hP6
          | rt r => exact fun v hv hn => p2 F5 H5 σ5 k5 (x5.trans x6) hP6 v hv fun a ha => x5.ht a (hn a ha)
    · left
      have ei : i = ds.length := by omega
      subst ei
      rw [List.drop_length] at p2
      exact ⟨y2, p2 F2 H2 σ2 k2 x2 hP2⟩

/-! ### while, with a number of turns that is enough -/
def dWhile (ft : En → O Bool) (b : En → O Fl) : Nat → En → O Fl
  | 0, _ => .bad
  | n + 1, ε => (ft ε).bind fun c ε1 => if c = true then (b ε1).bind (vTurn (dWhile ft b n)) else .ok .nx ε1
theorem ds_while {body : List Stmt} {ft : En → O Bool} (n : Nat) (hp : PassesOwn (model X.prog X.w) X.A X.env X.xe) (hc : DT X T W c ft) (hb : DSs X T W P body g) : DS X T W P (.While c body [] pos) (dWhile ft g n) := by
  refine PS.imp (ps_while hp hc hb) fun D σ H q => ?_
  obtain ⟨F, ε, k, p⟩ := q
  refine ⟨fun m σ2 H2 => ∃ F2 ε2, Ok X.K T F2 H2 σ2 ε2 ∧ Ext F H σ ε F2 H2 σ2 ε2 ∧ (∀ j ∈ P, σ2[j]? = σ[j]?) ∧ Ps X.K T W P F H σ ε (dWhile ft g m ε2) (SF X.K T H D), ⟨n, F, ε, k, Ext.refl, fun _ _ => rfl, p⟩, ?_⟩
  rintro m σ2 H2 ⟨F2, ε2, k2, x2, hP2, p2⟩
  cases m with
  | zero => exact p2.elim
  | succ m =>
    refine tDT_useS (g := fun c ε1 => if c = true then (g ε1).bind (vTurn (dWhile ft g m)) else .ok .nx ε1) (S := SF X.K T H D) k2 x2 hP2 p2 fun b F3 H3 ε3 k3 x3 y3 p3 => ?_
    cases b with
    | false => exact p3 F3 H3 σ2 k3 y3 hP2
    | true =>
      refine ⟨fun σ3 H3 => ∃ F3 ε3, Ok X.K T F3 H3 σ3 ε3 ∧ Ext F H σ ε F3 H3 σ3 ε3 ∧ (∀ j ∈ P, σ3[j]? = σ[j]?) ∧ Ps X.K T W P F H σ ε (dWhile ft g m ε3) (SF X.K T H D), fun σ' H' z => ⟨m, Nat.lt_succ_self _, z⟩, F3, ε3, k3, ?_⟩
      have p3 : Ps X.K T W P F H σ ε ((g ε3).bind (vTurn (dWhile ft g m))) (SF X.K T H D) := p3
      cases e4 : g ε3 with
      | bad => rw [e4] at p3; exact p3
      | exn c ε4 =>
        rw [e4] at p3
        exact fun F5 H5 σ5 k5 x6 hP5 => p3 F5 H5 σ5 k5 (y3.trans x6) fun j hj => (hP5 j hj).trans (hP2 j hj)
      | ok fl ε4 =>
        rw [e4] at p3
        intro F5 H5 σ5 k5 x6 hP5
        have hP6 : ∀ j ∈ P, σ5[j]? = σ[j]? := fun j hj => (hP5 j hj).trans (hP2 j hj)
        cases fl with
        | nx => exact ⟨F5, ε4, k5, y3.trans x6, hP6, p3⟩
        | ct => exact ⟨F5, ε4, k5, y3.trans x6, hP6, p3⟩
        | bk => exact p3 F5 H5 σ5 k5 (y3.trans x6) hP6
        | rt r => exact fun v hv hn => p3 F5 H5 σ5 k5 (y3.trans x6) hP6 v hv fun a ha => y3.ht a (hn a ha)
end
end DL

/-! DL5: comprehensions -/
namespace DL
open PySem PySem.Spec PyProof.Rows L2

abbrev W0 : WX := fun _ _ _ _ => False
def wipeE (ε : En) : List Nat → En
  | [] => ε
  | v :: vs => (wipeE ε vs).set v .no
theorem wipeE_length (ε : En) : ∀ vs : List Nat, (wipeE ε vs).length = ε.length
  | [] => rfl
  | v :: vs => by unfold wipeE; rw [List.length_set, wipeE_length ε vs]
theorem wipe_out' {σ : L2.St} {j : Nat} : ∀ {vs : List Nat}, j ∉ vs → (wipe σ vs)[j]? = σ[j]?
  | [], _ => rfl
  | v :: vs, h => by
    unfold wipe
    rw [List.getElem?_set_ne (fun e => h (by simp [e])), wipe_out' (fun z => h (List.mem_cons_of_mem _ z))]
theorem wipe_in' {σ : L2.St} {j : Nat} : ∀ {vs : List Nat}, j ∈ vs → j < σ.length → (wipe σ vs)[j]? = some none
  | v :: vs, h, hl => by
    unfold wipe
    by_cases e : v = j
    · subst e; rw [List.getElem?_set_self (by rw [wipe_length]; exact hl)]
    · rw [List.getElem?_set_ne e]
      rcases List.mem_cons.mp h with z | z
      · exact absurd z.symm e
      · exact wipe_in' z hl
theorem wipeE_out {ε : En} {j : Nat} : ∀ {vs : List Nat}, j ∉ vs → (wipeE ε vs)[j]? = ε[j]?
  | [], _ => rfl
  | v :: vs, h => by
    unfold wipeE
    rw [List.getElem?_set_ne (fun e => h (by simp [e])), wipeE_out (fun z => h (List.mem_cons_of_mem _ z))]
theorem wipeE_in {ε : En} {j : Nat} {s : Sl} : ∀ {vs : List Nat}, j ∈ vs → (wipeE ε vs)[j]? = some s → s = .no
  | v :: vs, h, e => by
    unfold wipeE at e
    by_cases ev : v = j
    · subst ev
      by_cases hl : v < (wipeE ε vs).length
      · rw [List.getElem?_set_self hl] at e; cases e; rfl
      · rw [List.getElem?_eq_none (by rw [List.length_set]; omega)] at e; cases e
    · rw [List.getElem?_set_ne ev] at e
      rcases List.mem_cons.mp h with z | z
      · exact absurd z.symm ev
      · exact wipeE_in z e
theorem wipe_eq {σ σ' : L2.St} {vs : List Nat} (hl : σ'.length = σ.length) (h : ∀ j, j ∉ vs → σ'[j]? = (wipe σ vs)[j]?) : wipe σ' vs = wipe σ vs := by
  apply List.ext_getElem?
  intro j
  by_cases hj : j ∈ vs
  · by_cases hlt : j < σ.length
    · rw [wipe_in' hj hlt, wipe_in' hj (by rw [hl]; exact hlt)]
    · rw [List.getElem?_eq_none (by rw [wipe_length, hl]; omega), List.getElem?_eq_none (by rw [wipe_length]; omega)]
  · rw [wipe_out' hj, h j hj]
theorem wipe_wipe {σ : L2.St} {vs : List Nat} : wipe (wipe σ vs) vs = wipe σ vs := wipe_eq (wipe_length σ vs) fun _ _ => rfl

section
variable {K : PySem.W.Frag} {T : Tab} {W : WX} {F0 H0 F H F' H' : Hp} {σ0 σ : L2.St} {ε0 ε ε' : En} {i : Nat} {d : D} {v : V} {vs : List Nat}
theorem own_wipe {a : Addr} (h : OwnAt (wipe σ vs) (wipeE ε vs) a) : OwnAt σ ε a := by
  obtain ⟨j, d, e, s⟩ := h
  by_cases hj : j ∈ vs
  · cases wipeE_in hj e
  · rw [wipeE_out hj] at e
    rw [wipe_out' hj] at s
    exact ⟨j, d, e, s⟩
theorem ok_wipe (k : Ok K T F H σ ε) : Ok K T F H (wipe σ vs) (wipeE ε vs) where
  sub := k.sub
  len := by rw [wipe_length, wipeE_length]; exact k.len
  fz := fun j d e => by
    by_cases hj : j ∈ vs
    · cases wipeE_in hj e
    · rw [wipeE_out hj] at e; rw [wipe_out' hj]; exact k.fz j d e
  own := fun j d e => by
    by_cases hj : j ∈ vs
    · cases wipeE_in hj e
    · rw [wipeE_out hj] at e; rw [wipe_out' hj]; exact k.own j d e
  sep := fun j1 j2 d1 d2 a e1 e2 s1 s2 => by
    by_cases h1 : j1 ∈ vs
    · cases wipeE_in h1 e1
    · by_cases h2 : j2 ∈ vs
      · cases wipeE_in h2 e2
      · rw [wipeE_out h1] at e1; rw [wipe_out' h1] at s1
        rw [wipeE_out h2] at e2; rw [wipe_out' h2] at s2
        exact k.sep j1 j2 d1 d2 a e1 e2 s1 s2
theorem Ext.wipe (x : Ext F0 H0 σ0 ε0 F H σ ε) : Ext F0 H0 σ0 ε0 F H (L2.wipe σ vs) (wipeE ε vs) :=
  ⟨x.fs, x.hk, x.ht, x.fn, fun a h => x.on a (own_wipe h)⟩
/-- the wiped slots, seen from where they were not wiped -/
def Wiped (vs : List Nat) (ε : En) : Prop := ∀ j s, j ∈ vs → ε[j]? = some s → s = .no
theorem wiped_wipeE : Wiped vs (wipeE ε vs) := fun _ _ hj e => wipeE_in hj e
theorem ok_unwipe (k : Ok K T F H (L2.wipe σ vs) ε) (w : Wiped vs ε) : Ok K T F H σ ε where
  sub := k.sub
  len := by rw [← k.len, wipe_length]
  fz := fun j d e => by
    by_cases hj : j ∈ vs
    · cases w j _ hj e
    · have := k.fz j d e; rw [wipe_out' hj] at this; exact this
  own := fun j d e => by
    by_cases hj : j ∈ vs
    · cases w j _ hj e
    · have := k.own j d e; rw [wipe_out' hj] at this; exact this
  sep := fun j1 j2 d1 d2 a e1 e2 s1 s2 => by
    by_cases h1 : j1 ∈ vs
    · cases w j1 _ h1 e1
    · by_cases h2 : j2 ∈ vs
      · cases w j2 _ h2 e2
      · exact k.sep j1 j2 d1 d2 a e1 e2 (by rw [wipe_out' h1]; exact s1) (by rw [wipe_out' h2]; exact s2)
theorem own_unwipe {a : Addr} (w : Wiped vs ε) (h : OwnAt σ ε a) : OwnAt (L2.wipe σ vs) ε a := by
  obtain ⟨j, d, e, s⟩ := h
  by_cases hj : j ∈ vs
  · cases w j _ hj e
  · exact ⟨j, d, e, by rw [wipe_out' hj]; exact s⟩
theorem Ext.unwipe (x : Ext F0 H0 σ0 ε0 F H (L2.wipe σ vs) ε) (w : Wiped vs ε) : Ext F0 H0 σ0 ε0 F H σ ε :=
  ⟨x.fs, x.hk, x.ht, x.fn, fun a h => x.on a (own_unwipe w h)⟩
/-- an object that no slot owns and nobody froze is written -/
theorem ok_upd {p : Addr} {o : HO} (k : Ok K T F H σ ε) (f : F p = none) (n : ¬ OwnAt σ ε p) : Ok K T F (upd H p o) σ ε where
  sub := fun b u e => by rw [upd_ne (ne_of_none e f)]; exact k.sub _ _ e
  len := k.len
  fz := k.fz
  own := fun i d e => by
    obtain ⟨a, u, e1, f', g, r⟩ := k.own i d e
    exact ⟨a, u, e1, f', by rw [upd_ne (fun z => n ⟨i, d, e, by rw [← z]; exact e1⟩)]; exact g, r⟩
  sep := k.sep
theorem Ext.upd {p : Addr} {o : HO} (x : Ext F0 H0 σ0 ε0 F H σ ε) (h0 : H0 p = none) : Ext F0 H0 σ0 ε0 F (L2.upd H p o) σ ε where
  fs := x.fs
  hk := fun a u e n => by rw [upd_ne (ne_of_none e h0)]; exact x.hk a u e n
  ht := fun a e => by
    by_cases h : a = p
    · subst h; exact h0
    · rw [upd_ne h] at e; exact x.ht a e
  fn := x.fn
  on := x.on
end

section
variable {X : Cx} {T : Tab} {W : WX} {e a b c tg iter elt : Expr} {ifs : List Expr} {f fa fb fc fe : En → O R} {ft : En → O Bool} {fs : En → O (List R)} {pos : Pos} {P tgs vs : List Nat} {gg : D → En → Option En}

abbrev DTs (X : Cx) (T : Tab) (W : WX) (ifs : List Expr) (f : En → O Bool) : Prop := PTs X ifs (tDT X.K T W f)
theorem PTs.imp {t t' : TT} (h : PTs X ifs t) (w : ∀ σ H Q, t' σ H Q → t σ H Q) : PTs X ifs t' := ⟨fun pins s σ H Q I q => h.run pins s σ H Q I (w σ H Q q)⟩
def dYes : En → O Bool := fun ε => .ok true ε
theorem dts_nil : DTs X T W [] dYes := PTs.imp pts_nil fun σ H Q ⟨F, ε, k, p⟩ => p F H k Ext.refl
theorem dts_one (h : DT X T W c ft) : DTs X T W [c] ft := pts_one h

/-- the turns of a comprehension; acc: the list so far -/
def lcLoop (gg : D → En → Option En) (ft : En → O Bool) (fe : En → O R) (vs : List Nat) : List D → En → List D → O (List D)
  | [], ε, acc => .ok acc ε
  | d :: ds, ε, acc => match gg d ε with
    | some ε1 => match ft ε1 with
      | .ok true ε2 => match fe ε2 with
        | .ok r ε3 => match frz ε3 r with
          | some (y, ε4) => lcLoop gg ft fe vs ds (wipeE ε4 vs) (acc ++ [y])
          | none => .bad
        | _ => .bad
      | .ok false ε2 => lcLoop gg ft fe vs ds (wipeE ε2 vs) acc
      | _ => .bad
    | none => .bad
def vLC (gg : D → En → Option En) (ft : En → O Bool) (fe : En → O R) (vs : List Nat) (ds : List D) (ε : En) : O R :=
  if ds.length ≤ 1000000 then (lcLoop gg ft fe vs ds (wipeE ε vs) []).bind fun acc ε2 => .ok (.new (.lst acc)) ε2 else .bad
def dLC (fi : En → O (List D)) (gg : D → En → Option En) (ft : En → O Bool) (fe : En → O R) (vs : List Nat) : En → O R := fun ε => (fi ε).bind fun ds ε1 => vLC gg ft fe vs ds ε1
theorem lc_use {K : PySem.W.Frag} {fi : En → O (List D)} (htg : ∀ j ∈ tgs, j ∈ vs) {σ : L2.St} {H : Hp} {Q : VK} (q : tD K T W (dLC fi gg ft fe vs) σ H Q) : tLc (tDI K T W fi) (tDG K T tgs gg) (tDT K T W0 ft) (tD K T W0 fe) vs σ H Q := by
  obtain ⟨F, ε, k, p⟩ := q
  refine ⟨F, ε, k, ?_⟩
  unfold dLC at p
  cases e : fi ε with
  | bad => rw [e] at p; exact p
  | exn c ε1 => rw [e] at p; exact p
  | ok ds ε1 =>
    rw [e] at p
    have p : Po K T W F H σ ε (vLC gg ft fe vs ds ε1) (SE K T H σ Q) := p
    intro F1 H1 k1 x1 J yj D hD
    unfold vLC at p
    by_cases hlen : ds.length ≤ 1000000
    · rw [if_pos hlen] at p
      have hD0 : H D = none := x1.ht D hD
      refine ⟨fun i m H2 => m = ds.length - i ∧ i ≤ ds.length ∧ ∃ F2 ε2 acc vacc, Ok K T F2 H2 (wipe σ vs) ε2 ∧ Ext F H σ ε F2 H2 (wipe σ vs) ε2 ∧ Same F1 F2 ∧ Wiped vs ε2 ∧ H2 D = some (.lst vacc) ∧ F2 D = none ∧ ¬ OwnAt (wipe σ vs) ε2 D ∧ Rps K T F2 acc vacc ∧ acc.length ≤ i ∧
        Po K T W F H σ ε ((lcLoop gg ft fe vs (ds.drop i) ε2 acc).bind fun acc ε2 => (O.ok (R.new (DL.D.lst acc)) ε2 : O R)) (SE K T H σ Q), ⟨ds.length, by simp, Nat.zero_le _, F1, wipeE ε1 vs, [], [], ?_, ?_, Same.refl _, wiped_wipeE, upd_same, free_of k1 hD, ?_, rps_nil.mpr rfl, Nat.zero_le _, p⟩, ?_⟩
      · exact ok_alloc (ok_wipe k1) hD
      · exact x1.wipe.alloc hD
      · exact not_own_fresh (ok_wipe k1) hD
      · rintro i m H2 ⟨rfl, hi, F2, ε2, acc, vacc, k2, x2, s2, w2, hHD, hFD, nD, ra, la, p2⟩
        obtain ⟨y1, y2⟩ := yj F2 H2 s2 k2.sub
        by_cases hlt : i < ds.length
        · right
          obtain ⟨go, y1⟩ := y1 i hlt
          refine ⟨go, fun H3 => ∃ F2 ε2 acc vacc, Ok K T F2 H3 (wipe σ vs) ε2 ∧ Ext F H σ ε F2 H3 (wipe σ vs) ε2 ∧ Same F1 F2 ∧ Wiped vs ε2 ∧ H3 D = some (.lst vacc) ∧ F2 D = none ∧ ¬ OwnAt (wipe σ vs) ε2 D ∧ Rps K T F2 acc vacc ∧ acc.length ≤ i + 1 ∧
            Po K T W F H σ ε ((lcLoop gg ft fe vs (ds.drop (i + 1)) ε2 acc).bind fun acc ε2 => (O.ok (R.new (DL.D.lst acc)) ε2 : O R)) (SE K T H σ Q), fun H' ⟨F2, ε2, z⟩ => ⟨ds.length - (i + 1), by omega, rfl, hlt, F2, ε2, z⟩, fun x H3 hy => ?_⟩
          obtain ⟨F3, d, s3, s4, s5, fr, ed, rd⟩ := y1 x H3 hy
          have hdrop : ds.drop i = d :: ds.drop (i + 1) := by
            rw [List.drop_eq_getElem_cons hlt]
            congr 1
            rw [List.getElem?_eq_getElem hlt] at ed
            exact Option.some.inj ed
          rw [hdrop] at p2
          unfold lcLoop at p2
          cases e3 : gg d ε2 with
          | none => simp only [e3, O.bind_bad] at p2; exact p2.elim
          | some ε3 =>
            simp only [e3] at p2
            have k3 := ok_grow k2 s3 s4 s5 fr
            have x3 := x2.grow s3 s5 fr
            have hHD3 : H3 D = some (.lst vacc) := s5 _ _ hHD
            have hFD3 : F3 D = none := by
              cases h : F3 D with
              | none => rfl
              | some u =>
                rcases fr D (by rw [h]; simp) with z | z
                · exact absurd hFD z
                · rw [hHD] at z; cases z
            refine ⟨F3, ε2, d, ε3, k3, rd, e3, fun F4 H4 σ4 k4 x4 hj hl4 => ?_⟩
            have hw : wipe σ4 vs = wipe σ vs := by
              refine wipe_eq (by rw [hl4, wipe_length]) fun j hjv => hj j fun z => hjv (htg j z)
            refine ⟨hw, ?_⟩
            have x5 := x3.trans x4
            have hHD4 : H4 D = some (.lst vacc) := x4.hk _ _ hHD3 nD
            have nD4 : ¬ OwnAt σ4 ε3 D := fun z => by
              rcases x4.on D z with z | z
              · exact nD z
              · rw [hHD3] at z; cases z
            have hFD4 : F4 D = none := by
              cases h : F4 D with
              | none => rfl
              | some u =>
                rcases x4.fn D (by rw [h]; simp) with z | z | z
                · exact absurd hFD3 z
                · rw [hHD3] at z; cases z
                · exact absurd z nD
            refine ⟨F4, ε3, k4, ?_⟩
            cases e4 : ft ε3 with
            | bad => simp only [e4, O.bind_bad] at p2; exact p2.elim
            | exn c ε4 => simp only [e4, O.bind_bad] at p2; exact p2.elim
            | ok b ε4 =>
              intro F5 H5 k5 x6
              have x7 := x5.trans x6
              have hHD5 : H5 D = some (.lst vacc) := x6.hk _ _ hHD4 nD4
              have nD5 : ¬ OwnAt σ4 ε4 D := fun z => by
                rcases x6.on D z with z | z
                · exact nD4 z
                · rw [hHD4] at z; cases z
              have hFD5 : F5 D = none := by
                cases h : F5 D with
                | none => rfl
                | some u =>
                  rcases x6.fn D (by rw [h]; simp) with z | z | z
                  · exact absurd hFD4 z
                  · rw [hHD4] at z; cases z
                  · exact absurd z nD4
              have s15 : Same F1 F5 := s2.trans (s3.trans (x4.fs.trans x6.fs))
              have r35 : Same F2 F5 := s3.trans (x4.fs.trans x6.fs)
              cases b with
              | false =>
                simp only [e4] at p2
                show _
                refine ⟨F5, wipeE ε4 vs, acc, vacc, ?_, ?_, s15, wiped_wipeE, hHD5, hFD5, ?_, Rps.mono r35 _ _ ra, Nat.le_succ_of_le la, p2⟩
                · rw [← hw]; exact ok_wipe k5
                · rw [← hw]; exact x7.wipe
                · rw [← hw]; exact fun z => nD5 (own_wipe z)
              | true =>
                simp only [e4] at p2
                refine ⟨F5, ε4, k5, ?_⟩
                cases e5 : fe ε4 with
                | bad => simp only [e5, O.bind_bad] at p2; exact p2.elim
                | exn c ε5 => simp only [e5, O.bind_bad] at p2; exact p2.elim
                | ok r ε5 =>
                  simp only [e5] at p2
                  intro F6 H6 k6 x8 v hv hn
                  cases e6 : frz ε5 r with
                  | none => simp only [e6, O.bind_bad] at p2; exact p2.elim
                  | some z =>
                    obtain ⟨y, ε6⟩ := z
                    simp only [e6] at p2
                    have x9 := x7.trans x8
                    obtain ⟨F7, k7, x10, r7, s7, f7, o7⟩ := frz_ok x9 k6 hv (fun a ha => x7.ht a (hn a ha)) e6
                    have hHD6 : H6 D = some (.lst vacc) := x8.hk _ _ hHD5 nD5
                    have nD6 : ¬ OwnAt σ4 ε5 D := fun z => by
                      rcases x8.on D z with z | z
                      · exact nD5 z
                      · rw [hHD5] at z; cases z
                    have hFD6 : F6 D = none := by
                      cases h : F6 D with
                      | none => rfl
                      | some u =>
                        rcases x8.fn D (by rw [h]; simp) with z | z | z
                        · exact absurd hFD5 z
                        · rw [hHD5] at z; cases z
                        · exact absurd z nD5
                    have nD7 : ¬ OwnAt σ4 ε6 D := fun z => nD6 (o7 D z)
                    have hFD7 : F7 D = none := by
                      cases h : F7 D with
                      | none => rfl
                      | some u =>
                        rcases f7 D (by rw [h]; simp) with z | z | z
                        · exact absurd hFD6 z
                        · have := hn D z
                          rw [hHD5] at this; cases this
                        · exact absurd z nD6
                    have lacc : vacc.length = acc.length := ra.length
                    refine ⟨vacc, hHD6, line1M' (by omega), F7, wipeE ε6 vs, acc ++ [y], vacc ++ [v], ?_, ?_, s15.trans (x8.fs.trans s7), wiped_wipeE, upd_same, hFD7, ?_, (Rps.mono (r35.trans (x8.fs.trans s7)) _ _ ra).append (Rps.one r7), ?_, p2⟩
                    · rw [← hw]; exact ok_wipe (ok_upd k7 hFD7 nD7)
                    · rw [← hw]; exact (x10.upd hD0).wipe
                    · rw [← hw]; exact fun z => nD7 (own_wipe z)
                    · rw [List.length_append, List.length_singleton]; omega
        · left
          have ei : i = ds.length := by omega
          subst ei
          rw [List.drop_length] at p2
          refine ⟨y2, ?_⟩
          have p2 : Po K T W F H σ ε (.ok (.new (.lst acc)) ε2) (SE K T H σ Q) := p2
          refine p2 F2 H2 (ok_unwipe k2 w2) (x2.unwipe w2) (.ref D) ⟨D, .lst vacc, rfl, hFD, hHD, ra, fun z => nD (own_unwipe w2 z)⟩ fun a ha => ?_
          have ea : a = D := by simpa [newA] using ha
          subst ea; exact hD0
    · rw [if_neg hlen] at p; exact p.elim
theorem de_lc {own : List (Str × Nat)} {scope : Scope} {fi : En → O (List D)} (hc : X.calm = true) (hN : X.N.Nodup) (hi : DI X T W tg iter fi) (ok : BlkOk X.N X.env.scope scope own)
    (hg : ∀ (s : Shared) (H : Hp) (C : Addr) (cl : List (Str × Addr)) (fp : List Addr), DG (X.blk s H scope (compEnvC scope cl C X.env) fp) T tgs tg gg) (ht : ∀ (s : Shared) (H : Hp) (C : Addr) (cl : List (Str × Addr)) (fp : List Addr), DTs (X.blk s H scope (compEnvC scope cl C X.env) fp) T W0 ifs ft)
    (he : ∀ (s : Shared) (H : Hp) (C : Addr) (cl : List (Str × Addr)) (fp : List Addr), DE (X.blk s H scope (compEnvC scope cl C X.env) fp) T W0 elt fe) (htg : ∀ j ∈ tgs, j ∈ own.map (·.2) := by decide) (hs : ∀ x, foldedSetIterable iter X.env x = pure x := by intro _; rfl) :
    DE X T W (.ListComp elt [⟨tg, iter, ifs, 0⟩] scope pos) (dLC fi gg ft fe (own.map (·.2))) :=
  PE.imp (pe_lc hc hN hi ok hg ht he hs) fun σ H Q q => lc_use htg q
theorem ds_setLc {own : List (Str × Nat)} {scope : Scope} {fi : En → O (List D)} {i : Nat} {y : Str} {py spos : Pos} (hc : X.calm = true) (hN : X.N.Nodup) (hsw : swapsWith (.ListComp elt [⟨tg, iter, ifs, 0⟩] scope pos) (some (.Name y py)) spos.line X.env = pure true) (hi : DI X T W tg iter fi) (ok : BlkOk X.N X.env.scope scope own)
    (hg : ∀ (s : Shared) (H : Hp) (C : Addr) (cl : List (Str × Addr)) (fp : List Addr), DG (X.blk s H scope (compEnvC scope cl C X.env) fp) T tgs tg gg) (ht : ∀ (s : Shared) (H : Hp) (C : Addr) (cl : List (Str × Addr)) (fp : List Addr), DTs (X.blk s H scope (compEnvC scope cl C X.env) fp) T W0 ifs ft)
    (he : ∀ (s : Shared) (H : Hp) (C : Addr) (cl : List (Str × Addr)) (fp : List Addr), DE (X.blk s H scope (compEnvC scope cl C X.env) fp) T W0 elt fe) (hy : X.N[i]? = some y := by rfl) (hyl : X.env.scope.names.lookup y = some .local := by rfl) (hP : i ∉ P := by decide) (htg : ∀ j ∈ tgs, j ∈ own.map (·.2) := by decide) (hs : ∀ x, foldedSetIterable iter X.env x = pure x := by intro _; rfl) :
    DS X T W P (.Assign [.Name y py] (.ListComp elt [⟨tg, iter, ifs, 0⟩] scope pos) spos) (dSet i (dLC fi gg ft fe (own.map (·.2)))) := by
  refine PS.imp (ps_setLc (te := tD X.K T W0 fe) (g := tDG X.K T tgs gg) (tt := tDT X.K T W0 ft) hc hN hy hyl hsw hi ok hg ht he hs) fun D σ H q => ?_
  have := set_use (te := tC .non) hP q
  exact lc_use (K := X.K) htg this
end
end DL

/-! DL6: defs and their calls -/
namespace DL
open PySem PySem.Spec PyProof.Rows L2

/-- what a def does to its arguments' data -/
def spD (K : PySem.W.Frag) (T : Tab) (n : Nat) (φ : En → O R) : Sp := fun vs H Q E => vs.length = n ∧ ∃ F ε, Ok K T F H (vs.map some) ε ∧ Po K T (fun c d _ H' => E c d H') F H (vs.map some) ε (φ ε) (SE K T H (vs.map some) Q)

def isOwn : Sl → Bool
  | .own _ => true
  | _ => false
def ownIn (P : List Nat) (ε : En) : Bool := (List.range ε.length).all fun i => match ε[i]? with
  | some (.own _) => P.contains i
  | _ => true
/-- the parameters behind the body: their own objects as they are then -/
def outE : En → En → En
  | [], _ => []
  | .own d :: ε, s :: ε' => s :: outE ε ε'
  | .fz d :: ε, _ :: ε' => .fz d :: outE ε ε'
  | .no :: ε, _ :: ε' => .no :: outE ε ε'
  | _ :: ε, [] => .no :: outE ε []
def keepOwn : En → En → Bool
  | .own _ :: ε, s :: ε' => isOwn s && keepOwn ε ε'
  | _ :: ε, _ :: ε' => keepOwn ε ε'
  | [], _ => true
  | _, [] => false
def outR (ε ε' : En) : R → Option R
  | .fz d => some (.fz d)
  | .new d => some (.new d)
  | .at j => match ε[j]? with
    | some (.own _) => some (.at j)
    | _ => match ε'[j]? with
      | some (.own d) => if keepOwn ε ε' then some (.new d) else none
      | _ => none
def vOut (ε : En) (fl : Fl) (ε' : En) : O R :=
  match fl with
  | .rt r => match outR ε ε' r with
    | some r' => .ok r' (outE ε ε')
    | none => .bad
  | .nx => .ok (.fz .non) (outE ε ε')
  | _ => .bad
def vFin (ε : En) (o : O Fl) : O R :=
  match o with
  | .bad => .bad
  | .ok fl ε' => vOut ε fl ε'
  | .exn c ε' => .exn c (outE ε ε')
def fnD (P : List Nat) (m : Nat) (g : En → O Fl) : En → O R := fun ε => if ownIn P ε then vFin ε (g (ε ++ List.replicate m .no)) else .bad

theorem ownIn_get {P : List Nat} {ε : En} (h : ownIn P ε = true) {i : Nat} {d : D} (e : ε[i]? = some (.own d)) : i ∈ P := by
  unfold ownIn at h
  rw [List.all_eq_true] at h
  have hi : i < ε.length := (List.getElem?_eq_some_iff.mp e).1
  have := h i (List.mem_range.mpr hi)
  rw [e] at this
  simpa using this
theorem outE_length : ∀ ε ε' : En, (outE ε ε').length = ε.length
  | [], ε' => by unfold outE; rfl
  | .own d :: ε, s :: ε' => by unfold outE; rw [List.length_cons, outE_length ε ε', List.length_cons]
  | .fz d :: ε, _ :: ε' => by unfold outE; rw [List.length_cons, outE_length ε ε', List.length_cons]
  | .no :: ε, _ :: ε' => by unfold outE; rw [List.length_cons, outE_length ε ε', List.length_cons]
  | .own _ :: ε, [] => by unfold outE; rw [List.length_cons, outE_length ε [], List.length_cons]
  | .fz _ :: ε, [] => by unfold outE; rw [List.length_cons, outE_length ε [], List.length_cons]
  | .no :: ε, [] => by unfold outE; rw [List.length_cons, outE_length ε [], List.length_cons]
theorem outE_get : ∀ {ε ε' : En} {i : Nat} {s : Sl}, (outE ε ε')[i]? = some s → (∃ d, ε[i]? = some (.own d) ∧ ε'[i]? = some s) ∨ (∃ d, s = .fz d ∧ ε[i]? = some (.fz d)) ∨ s = .no
  | [], ε', i, s, h => by unfold outE at h; simp at h
  | .own d :: ε, u :: ε', 0, s, h => by unfold outE at h; simp at h; exact .inl ⟨d, rfl, by simp [h]⟩
  | .own d :: ε, u :: ε', i + 1, s, h => by
    unfold outE at h
    have h' : (outE ε ε')[i]? = some s := by simpa using h
    simpa using outE_get h'
  | .fz d :: ε, u :: ε', 0, s, h => by unfold outE at h; simp at h; exact .inr (.inl ⟨d, h.symm, rfl⟩)
  | .fz d :: ε, u :: ε', i + 1, s, h => by
    unfold outE at h
    have h' : (outE ε ε')[i]? = some s := by simpa using h
    simpa using outE_get h'
  | .no :: ε, u :: ε', 0, s, h => by unfold outE at h; simp at h; exact .inr (.inr h.symm)
  | .no :: ε, u :: ε', i + 1, s, h => by
    unfold outE at h
    have h' : (outE ε ε')[i]? = some s := by simpa using h
    simpa using outE_get h'
  | .own d :: ε, [], 0, s, h => by unfold outE at h; simp at h; exact .inr (.inr h.symm)
  | .fz d :: ε, [], 0, s, h => by unfold outE at h; simp at h; exact .inr (.inr h.symm)
  | .no :: ε, [], 0, s, h => by unfold outE at h; simp at h; exact .inr (.inr h.symm)
  | .own d :: ε, [], i + 1, s, h => by
    unfold outE at h
    have h' : (outE ε [])[i]? = some s := by simpa using h
    simpa using outE_get h'
  | .fz d :: ε, [], i + 1, s, h => by
    unfold outE at h
    have h' : (outE ε [])[i]? = some s := by simpa using h
    simpa using outE_get h'
  | .no :: ε, [], i + 1, s, h => by
    unfold outE at h
    have h' : (outE ε [])[i]? = some s := by simpa using h
    simpa using outE_get h'
theorem keepOwn_get : ∀ {ε ε' : En} {i : Nat} {d : D}, keepOwn ε ε' = true → ε[i]? = some (.own d) → ∃ d', ε'[i]? = some (.own d')
  | [], ε', i, d, _, e => by simp at e
  | .own d0 :: ε, s :: ε', 0, d, h, e => by
    unfold keepOwn at h
    rw [Bool.and_eq_true] at h
    cases s with
    | own d' => exact ⟨d', rfl⟩
    | fz d' => cases h.1
    | no => cases h.1
  | .own d0 :: ε, s :: ε', i + 1, d, h, e => by
    unfold keepOwn at h
    rw [Bool.and_eq_true] at h
    simpa using keepOwn_get (i := i) (d := d) h.2 (by simpa using e)
  | .fz d0 :: ε, s :: ε', 0, d, h, e => by simp at e
  | .no :: ε, s :: ε', 0, d, h, e => by simp at e
  | .fz d0 :: ε, s :: ε', i + 1, d, h, e => by
    unfold keepOwn at h
    simpa using keepOwn_get (i := i) (d := d) h (by simpa using e)
  | .no :: ε, s :: ε', i + 1, d, h, e => by
    unfold keepOwn at h
    simpa using keepOwn_get (i := i) (d := d) h (by simpa using e)
  | .own d0 :: ε, [], i, d, h, e => by unfold keepOwn at h; cases h
  | .fz d0 :: ε, [], i, d, h, e => by unfold keepOwn at h; cases h
  | .no :: ε, [], i, d, h, e => by unfold keepOwn at h; cases h

section
variable {K : PySem.W.Frag} {T : Tab} {F H F' H' : Hp} {σ σ' : L2.St} {ε ε' : En} {m : Nat}
theorem app_no {i : Nat} {s : Sl} (hs : s ≠ .no) (e : (ε ++ List.replicate m .no)[i]? = some s) : ε[i]? = some s := by
  by_cases hi : i < ε.length
  · rwa [List.getElem?_append_left hi] at e
  · rw [List.getElem?_append_right (by omega)] at e
    have := List.mem_of_getElem? e
    exact absurd (List.eq_of_mem_replicate this) hs
theorem app_get {α : Type} {xs ys : List α} {i : Nat} {s : α} (e : xs[i]? = some s) : (xs ++ ys)[i]? = some s := by
  rw [List.getElem?_append_left (List.getElem?_eq_some_iff.mp e).1]; exact e
theorem app_back {ε : En} {σ : L2.St} (hl : σ.length = ε.length) {i : Nat} {s : Sl} {u : Option V} (e : ε[i]? = some s) (e' : (σ ++ List.replicate m none)[i]? = some u) : σ[i]? = some u := by
  rwa [List.getElem?_append_left (by rw [hl]; exact (List.getElem?_eq_some_iff.mp e).1)] at e'
theorem ok_app (k : Ok K T F H σ ε) : Ok K T F H (σ ++ List.replicate m none) (ε ++ List.replicate m .no) where
  sub := k.sub
  len := by rw [List.length_append, List.length_append, List.length_replicate, List.length_replicate, k.len]
  fz := fun i d e => by
    obtain ⟨v, e1, r⟩ := k.fz i d (app_no (by simp) e)
    exact ⟨v, app_get e1, r⟩
  own := fun i d e => by
    obtain ⟨a, o, e1, r⟩ := k.own i d (app_no (by simp) e)
    exact ⟨a, o, app_get e1, r⟩
  sep := fun i j d d' a e1 e2 s1 s2 => by
    have f1 := app_no (by simp) e1
    have f2 := app_no (by simp) e2
    exact k.sep i j d d' a f1 f2 (app_back k.len f1 s1) (app_back k.len f2 s2)
theorem own_app (hl : σ.length = ε.length) {a : Addr} : OwnAt (σ ++ List.replicate m none) (ε ++ List.replicate m .no) a ↔ OwnAt σ ε a := by
  constructor
  · rintro ⟨i, d, e, s⟩
    have f := app_no (by simp) e
    exact ⟨i, d, f, app_back hl f s⟩
  · rintro ⟨i, d, e, s⟩
    exact ⟨i, d, app_get e, app_get s⟩
theorem own_out {P : List Nat} (hO : ownIn P ε = true) (hl : σ.length = ε.length) (hP : ∀ i ∈ P, σ'[i]? = (σ ++ List.replicate m none)[i]?) {a : Addr} (h : OwnAt σ (outE ε ε') a) : OwnAt σ' ε' a ∧ ∃ (i : Nat) (d : D), ε[i]? = some (Sl.own d) ∧ σ'[i]? = some (some (V.ref a)) := by
  obtain ⟨i, d, e, s⟩ := h
  rcases outE_get e with ⟨d0, e1, e2⟩ | ⟨d0, e1, e2⟩ | e1
  · have hi := ownIn_get hO e1
    have s' : σ'[i]? = some (some (.ref a)) := by rw [hP i hi]; exact app_get s
    exact ⟨⟨i, d, e2, s'⟩, i, d0, e1, s'⟩
  · cases e1
  · cases e1
theorem ok_out {P : List Nat} (hO : ownIn P ε = true) (k : Ok K T F H σ ε) (k' : Ok K T F' H' σ' ε') (x : Ext F H (σ ++ List.replicate m none) (ε ++ List.replicate m .no) F' H' σ' ε') (hP : ∀ i ∈ P, σ'[i]? = (σ ++ List.replicate m none)[i]?) :
    Ok K T F' H' σ (outE ε ε') ∧ Ext F H σ ε F' H' σ (outE ε ε') := by
  have back : ∀ {i : Nat} {d0 : D} {u : Option V}, ε[i]? = some (.own d0) → σ'[i]? = some u → σ[i]? = some u := fun {i d0 u} e1 s => by
    rw [hP i (ownIn_get hO e1)] at s
    exact app_back k.len e1 s
  refine ⟨⟨k'.sub, by rw [outE_length]; exact k.len, fun i d e => ?_, fun i d e => ?_, fun i j d d' a e1 e2 s1 s2 => ?_⟩, ⟨x.fs, fun a o h n => x.hk a o h fun z => n ((own_app k.len).mp z), x.ht, fun a h => ?_, fun a h => ?_⟩⟩
  · rcases outE_get e with ⟨d0, e1, e2⟩ | ⟨d0, e1, e2⟩ | e1
    · obtain ⟨v, s, r⟩ := k'.fz i d e2
      exact ⟨v, back e1 s, r⟩
    · cases e1
      obtain ⟨v, s, r⟩ := k.fz i d e2
      exact ⟨v, s, Rp.mono x.fs _ _ r⟩
    · cases e1
  · rcases outE_get e with ⟨d0, e1, e2⟩ | ⟨d0, e1, e2⟩ | e1
    · obtain ⟨a, o, s, r⟩ := k'.own i d e2
      exact ⟨a, o, back e1 s, r⟩
    · cases e1
    · cases e1
  · rcases outE_get e1 with ⟨d0, f1, f2⟩ | ⟨d0, f1, f2⟩ | f1
    · rcases outE_get e2 with ⟨d2, g1, g2⟩ | ⟨d2, g1, g2⟩ | g1
      · refine k'.sep i j d d' a f2 g2 ?_ ?_
        · rw [hP i (ownIn_get hO f1)]; exact app_get s1
        · rw [hP j (ownIn_get hO g1)]; exact app_get s2
      · cases g1
      · cases g1
    · cases f1
    · cases f1
  · rcases x.fn a h with z | z | z
    · exact .inl z
    · exact .inr (.inl z)
    · exact .inr (.inr ((own_app k.len).mp z))
  · rcases x.on a (own_out hO k.len hP h).1 with z | z
    · exact .inl ((own_app k.len).mp z)
    · exact .inr z
end

section
variable {P : Program} {w : World} {K : PySem.W.Frag} {mg : Str → Option Value} {base : Heap}
/-- THE RULE for a def -/
theorem fn_ok {x qual : Str} {st : Stmt} {f : Addr} {fd : FuncData} {N ps : List Str} {k : Nat} {T : Tab} {Pr : List Nat} {g : En → O Fl} (n m : Nat) (F : Fun K x qual st f fd) (S : FnScope N ps (defScope st)) (hn : ps.length = n) (hm : N.length - n = m)
    (hbody : ∀ (cdv : Value) (A : Around) (outer : List Env) (s : Shared) (H : Hp) (E : XK), Room k (A.deeper (envOfC qual (defScope st) s.heap.objs.size f cdv)) →
      DSs (cxOf (L2.CX P w) P w K mg base N qual (defScope st) f cdv A outer s H E) T (fun c d _ H' => E c d H') Pr (defBody st) g) : FnOk P w K mg base (L2.CX P w) (k + 1) f fd ps (spD K T n (fnD Pr m g)) := by
  refine F.okX S (fun vs H Q E h => h.1.trans hn.symm) fun cdv A outer s H vs Q E hr hsp => ?_
  refine ⟨_, hbody cdv A outer s H E hr, ?_⟩
  obtain ⟨hl, F0, ε, k0, p⟩ := hsp
  have hst : L2.start N vs = vs.map some ++ List.replicate m none := by unfold L2.start; rw [hl, hm]
  rw [hst]
  unfold fnD at p
  by_cases hO : ownIn Pr ε = true
  · rw [if_pos hO] at p
    refine ⟨F0, _, ok_app (m := m) k0, ?_⟩
    cases e : g (ε ++ List.replicate m .no) with
    | bad => rw [e] at p; exact p.elim
    | exn c ε' =>
      rw [e] at p
      intro F' H' σ' k' x' hP
      obtain ⟨k1, x1⟩ := ok_out hO k0 k' x' hP
      exact p F' H' k1 x1
    | ok fl ε' =>
      rw [e] at p
      have p : Po K T (fun c d _ H' => E c d H') F0 H (vs.map some) ε (vOut ε fl ε') (SE K T H (vs.map some) Q) := p
      intro F' H' σ' k' x' hP
      obtain ⟨k1, x1⟩ := ok_out hO k0 k' x' hP
      cases fl with
      | bk => exact p.elim
      | ct => exact p.elim
      | nx => exact p F' H' k1 x1 .non (show Rp K T F' .non .non from rp_non.mpr rfl) (by simp [newA])
      | rt r =>
        have p : Po K T (fun c d _ H' => E c d H') F0 H (vs.map some) ε (match outR ε ε' r with | some r' => .ok r' (outE ε ε') | none => .bad) (SE K T H (vs.map some) Q) := p
        intro v hv hn'
        cases r with
        | fz d => exact p F' H' k1 x1 v hv hn'
        | new d =>
          obtain ⟨a, o, rfl, f1, g1, q1, n1⟩ := hv
          exact p F' H' k1 x1 (.ref a) ⟨a, o, rfl, f1, g1, q1, fun z => n1 (own_out hO k0.len hP z).1⟩ hn'
        | «at» j =>
          have hv : σ'[j]? = some (some v) := hv
          by_cases hj : ∃ d0 : DL.D, ε[j]? = some (Sl.own d0)
          · obtain ⟨d0, ej⟩ := hj
            have er : outR ε ε' (.at j) = some (.at j) := by simp only [outR, ej]
            rw [er] at p
            refine p F' H' k1 x1 v ?_ (by simp [newA])
            show (vs.map some)[j]? = some (some v)
            rw [hP j (ownIn_get hO ej)] at hv
            exact app_back k0.len ej hv
          · have er : outR ε ε' (.at j) = (match ε'[j]? with | some (.own d) => if keepOwn ε ε' then some (.new d) else none | _ => none) := by
              show (match ε[j]? with | some (.own _) => some (R.at j) | _ => (match ε'[j]? with | some (.own d) => if keepOwn ε ε' then some (R.new d) else none | _ => none)) = _
              cases ej : ε[j]? with
              | none => rfl
              | some s0 =>
                cases s0 with
                | own d0 => exact absurd ⟨d0, ej⟩ hj
                | fz d0 => rfl
                | no => rfl
            rw [er] at p
            cases ej' : ε'[j]? with
            | none => rw [ej'] at p; exact p.elim
            | some s' =>
              rw [ej'] at p
              cases s' with
              | no => exact p.elim
              | fz d => exact p.elim
              | own d =>
                by_cases hk : keepOwn ε ε' = true
                · simp only [hk, if_true] at p
                  obtain ⟨a, o, s1, f1, g1, q1⟩ := k'.own j d ej'
                  rw [hv] at s1
                  cases s1
                  have apart : ∀ (i : Nat) (d1 : DL.D), ε[i]? = some (Sl.own d1) → σ'[i]? = some (some (V.ref a)) → False := fun i d1 e1 s2 => by
                    obtain ⟨d2, e2⟩ := keepOwn_get hk e1
                    have : i = j := k'.sep i j d2 d a e2 ej' s2 hv
                    subst this
                    exact hj ⟨d1, e1⟩
                  refine p F' H' k1 x1 (.ref a) ⟨a, o, rfl, f1, g1, q1, fun z => ?_⟩ fun b hb => ?_
                  · obtain ⟨_, i, d1, e1, s2⟩ := own_out hO k0.len hP z
                    exact apart i d1 e1 s2
                  · have eb : b = a := by simpa [newA] using hb
                    subst eb
                    rcases x'.on b ⟨j, d, ej', hv⟩ with z | z
                    · obtain ⟨i, d1, e1, s2⟩ := (own_app k0.len).mp z
                      exact (apart i d1 e1 (by rw [hP i (ownIn_get hO e1)]; exact app_get s2)).elim
                    · exact z
                · simp only [hk] at p
                  exact p.elim
  · rw [if_neg hO] at p
    exact p.elim
end

/-! ### calls: all arguments only read, a flat answer -/
def ress (ε : En) : List R → Option (List D)
  | [] => some []
  | r :: rs => match res ε r, ress ε rs with
    | some d, some ds => some (d :: ds)
    | _, _ => none
def vCallB (φ : En → O R) (ε : En) (rs : List R) : O R :=
  match ress ε rs with
  | some ds => match φ (ds.map .fz) with
    | .ok (.fz d) _ => if flat d then .ok (.fz d) ε else .bad
    | .ok (.new (.lst es)) _ => if es.all flat then .ok (.new (.lst es)) ε else .bad
    | .exn c _ => .exn c ε
    | _ => .bad
  | none => .bad
def dCallB (φ : En → O R) (fs : En → O (List R)) : En → O R := fun ε => (fs ε).bind fun rs ε1 => vCallB φ ε1 rs
theorem ress_rps {K : PySem.W.Frag} {T : Tab} {F H : Hp} {σ : L2.St} {ε : En} (k : Ok K T F H σ ε) : ∀ {rs : List R} {vs : List V} {ds : List D}, RpRs K T F H σ ε rs vs → ress ε rs = some ds → Rps K T H ds vs
  | [], vs, ds, h, e => by cases e; exact rps_nil.mpr h
  | r :: rs, vs, ds, ⟨v, w, ev, h1, h2⟩, e => by
    unfold ress at e
    split at e
    · rename_i d ds' e1 e2
      cases e
      exact rps_cons.mpr ⟨v, w, ev, res_rp k h1 e1, ress_rps k h2 e2⟩
    · cases e
theorem ok_vals {K : PySem.W.Frag} {T : Tab} {H : Hp} {ds : List D} {vs : List V} (h : Rps K T H ds vs) : Ok K T H H (vs.map some) (ds.map .fz) where
  sub := Same.refl _
  len := by rw [List.length_map, List.length_map, h.length]
  fz := fun i d e => by
    rw [List.getElem?_map] at e
    cases ed : ds[i]? with
    | none => rw [ed] at e; cases e
    | some d' =>
      rw [ed] at e
      cases e
      obtain ⟨v, ev, r⟩ := h.get ed
      exact ⟨v, by rw [List.getElem?_map, ev]; rfl, r⟩
  own := fun i d e => by
    rw [List.getElem?_map] at e
    cases ed : ds[i]? with
    | none => rw [ed] at e; cases e
    | some d' => rw [ed] at e; cases e
  sep := fun i j d d' a e _ _ _ => by
    rw [List.getElem?_map] at e
    cases ed : ds[i]? with
    | none => rw [ed] at e; cases e
    | some d' => rw [ed] at e; cases e
theorem not_own_vals {ds : List D} {σ : L2.St} {a : Addr} : ¬ OwnAt σ (ds.map .fz) a := fun ⟨i, d, e, _⟩ => by
  rw [List.getElem?_map] at e
  cases ed : ds[i]? with
  | none => rw [ed] at e; cases e
  | some d' => rw [ed] at e; cases e
theorem flats_rp {K : PySem.W.Frag} {T : Tab} {F F' : Hp} : ∀ {ds : List D} {vs : List V}, ds.all flat = true → Rps K T F ds vs → Rps K T F' ds vs
  | [], vs, _, h => rps_nil.mpr (rps_nil.mp h)
  | d :: ds, vs, hf, h => by
    obtain ⟨v, r, e, h1, h2⟩ := rps_cons.mp h
    rw [List.all_cons, Bool.and_eq_true] at hf
    exact rps_cons.mpr ⟨v, r, e, flat_rp hf.1 h1, flats_rp hf.2 h2⟩
/-- at a call: from the caller's state to the callee's promise -/
theorem callB_use {K : PySem.W.Frag} {T : Tab} {W : WX} {φ : En → O R} {n : Nat} {F0 H0 F1 H1 : Hp} {σ : L2.St} {ε0 ε1 : En} {rs : List R} {vs : List V} {Q : VK} (hn : rs.length = n) (k1 : Ok K T F1 H1 σ ε1) (x1 : Ext F0 H0 σ ε0 F1 H1 σ ε1) (q1 : RpRs K T F1 H1 σ ε1 rs vs)
    (p : Po K T W F0 H0 σ ε0 (vCallB φ ε1 rs) (SE K T H0 σ Q)) : spD K T n φ vs H1 Q (WE W σ) := by
  unfold vCallB at p
  cases e1 : ress ε1 rs with
  | none => simp only [e1] at p; exact p.elim
  | some ds =>
    simp only [e1] at p
    have hr := ress_rps k1 q1 e1
    refine ⟨by rw [q1.length]; exact hn, H1, ds.map .fz, ok_vals hr, ?_⟩
    cases e2 : φ (ds.map .fz) with
    | bad => simp only [e2] at p; exact p.elim
    | exn c ε' =>
      simp only [e2] at p
      intro F' H' k' x'
      have s3 : Same H1 H' := fun a o h => x'.hk a o h not_own_vals
      exact p F1 H' (ok_grow k1 (Same.refl _) (k1.sub.trans s3) s3 fun a h => .inl h) (x1.grow (Same.refl _) s3 fun a h => .inl h)
    | ok r ε' =>
      intro F' H' k' x' v hv hnew
      have s3 : Same H1 H' := fun a o h => x'.hk a o h not_own_vals
      have k2 : Ok K T F1 H' σ ε1 := ok_grow k1 (Same.refl _) (k1.sub.trans s3) s3 fun a h => .inl h
      have x2 : Ext F0 H0 σ ε0 F1 H' σ ε1 := x1.grow (Same.refl _) s3 fun a h => .inl h
      cases r with
      | fz d =>
        simp only [e2] at p
        by_cases hf : flat d = true
        · rw [if_pos hf] at p
          exact SE.flat k2 x2 p hf hv
        · rw [if_neg hf] at p; exact p.elim
      | «at» j => simp only [e2] at p; exact p.elim
      | new d =>
        cases d with
        | lst es =>
          simp only [e2] at p
          by_cases hf : es.all flat = true
          · rw [if_pos hf] at p
            obtain ⟨a, o, rfl, f1, g1, r1, _⟩ := hv
            have ha : H1 a = none := hnew a (by simp [newA])
            obtain ⟨us, rfl, r2⟩ := rpO_lst.mp r1
            refine SE.fin k2 x2 p ⟨a, _, rfl, ?_, g1, rpO_lst.mpr ⟨us, rfl, flats_rp hf r2⟩, fun ⟨i, d, e, s⟩ => ?_⟩ fun b hb => ?_
            · cases h : F1 a with
              | none => rfl
              | some u => rw [k1.sub _ _ h] at ha; cases ha
            · obtain ⟨b, o, s', _, g2, _⟩ := k1.own i d e
              rw [s] at s'; cases s'
              rw [ha] at g2; cases g2
            · have eb : b = a := by simpa [newA] using hb
              subst eb
              exact x1.ht _ ha
          · rw [if_neg hf] at p; exact p.elim
        | _ => simp only [e2] at p; exact p.elim
end DL

/-! DL7: calls that hand on objects of the caller's -/
namespace DL
open PySem PySem.Spec PyProof.Rows L2

/-- the arguments that are only values are frozen (ms: which are handed on as the caller's own objects) -/
def frzM : En → List Bool → List R → Option (List R × En)
  | ε, [], [] => some ([], ε)
  | ε, true :: ms, r :: rs => match frzM ε ms rs with
    | some (rs', ε') => some (r :: rs', ε')
    | none => none
  | ε, false :: ms, r :: rs => match frz ε r with
    | some (d, ε1) => match frzM ε1 ms rs with
      | some (rs', ε') => some (.fz d :: rs', ε')
      | none => none
    | none => none
  | _, _, _ => none
/-- the callee's slots -/
def cSl (ε : En) : Bool → R → Option Sl
  | false, .fz d => some (.fz d)
  | true, .new d => some (.own d)
  | true, .at j => match ε[j]? with
    | some (.own d) => some (.own d)
    | _ => none
  | _, _ => none
def cSls (ε : En) : List Bool → List R → Option En
  | [], [] => some []
  | m :: ms, r :: rs => match cSl ε m r, cSls ε ms rs with
    | some s, some ss => some (s :: ss)
    | _, _ => none
  | _, _ => none
/-- what the callee made of the caller's own objects -/
def upR : List R → En → En → En
  | .at j :: rs, s :: ss, ε => upR rs ss (ε.set j s)
  | .fz _ :: rs, _ :: ss, ε => upR rs ss ε
  | .new _ :: rs, _ :: ss, ε => upR rs ss ε
  | _, _, ε => ε
def atsOf : List R → List Nat
  | [] => []
  | .at j :: rs => j :: atsOf rs
  | _ :: rs => atsOf rs
def cRes (rs : List R) : R → Option R
  | .fz d => some (.fz d)
  | .new d => some (.new d)
  | .at i => match rs[i]? with
    | some (.at j) => some (.at j)
    | _ => none
def vCall (φ : En → O R) (ms : List Bool) (ε : En) (rs : List R) : O R :=
  match frzM ε ms rs with
  | some (rs', ε1) => if (atsOf rs').Nodup then match cSls ε1 ms rs' with
      | some εc => match φ εc with
        | .bad => .bad
        | .exn c εc' => .exn c (upR rs' εc' ε1)
        | .ok r εc' => match cRes rs' r with
          | some r' => .ok r' (upR rs' εc' ε1)
          | none => .bad
      | none => .bad
    else .bad
  | none => .bad
def dCall (φ : En → O R) (ms : List Bool) (fs : En → O (List R)) : En → O R := fun ε => (fs ε).bind fun rs ε1 => vCall φ ms ε1 rs

theorem frzM_ok {K : PySem.W.Frag} {T : Tab} {F0 H0 : Hp} {σ0 σ : L2.St} {ε0 : En} : ∀ {ms : List Bool} {rs rs' : List R} {vs : List V} {F H : Hp} {ε ε' : En}, Ext F0 H0 σ0 ε0 F H σ ε → Ok K T F H σ ε → RpRs K T F H σ ε rs vs →
    (∀ a ∈ newAs rs vs, H0 a = none) → (newAs rs vs).Nodup → frzM ε ms rs = some (rs', ε') → ∃ F', Ok K T F' H σ ε' ∧ Ext F0 H0 σ0 ε0 F' H σ ε' ∧ RpRs K T F' H σ ε' rs' vs ∧ Same F F' ∧ (∀ a ∈ newAs rs' vs, a ∈ newAs rs vs) ∧ (newAs rs' vs).Nodup ∧
      (∀ b, F' b ≠ none → F b ≠ none ∨ OwnAt σ ε b ∨ (b ∈ newAs rs vs ∧ b ∉ newAs rs' vs)) ∧ (∀ b, OwnAt σ ε' b → OwnAt σ ε b)
  | [], [], rs', vs, F, H, ε, ε', x, k, h, hn, nd, e => by
    unfold frzM at e
    cases e
    exact ⟨F, k, x, h, Same.refl _, fun a ha => ha, nd, fun b hb => .inl hb, fun b hb => hb⟩
  | true :: ms, r :: rs, rs', vs, F, H, ε, ε', x, k, h, hn, nd, e => by
    obtain ⟨v, w, rfl, h1, h2⟩ := h
    unfold frzM at e
    split at e
    · rename_i rs1 ε1 e1
      cases e
      have nd' : (newA r v ++ newAs rs w).Nodup := nd
      obtain ⟨n1, n2, n3⟩ := List.nodup_append.mp nd'
      obtain ⟨F1, k1, x1, r1, s1, a1, b1, f1, o1⟩ := frzM_ok x k h2 (fun a ha => hn a (List.mem_append_right _ ha)) n2 e1
      have hr : RpR K T F1 H σ ε' r v := by
        cases r with
        | fz d => exact Rp.mono s1 _ _ h1
        | «at» j => exact h1
        | new d =>
          obtain ⟨a, o, rfl, f, g, q, n⟩ := h1
          refine ⟨a, o, rfl, ?_, g, q.mono s1, fun z => n (o1 a z)⟩
          cases hf : F1 a with
          | none => rfl
          | some u =>
            rcases f1 a (by rw [hf]; simp) with z | z | z
            · exact absurd f z
            · exact absurd z n
            · exact absurd rfl (n3 a (by simp [newA]) a z.1)
      refine ⟨F1, k1, x1, ⟨v, w, rfl, hr, r1⟩, s1, fun a ha => ?_, ?_, fun b hb => ?_, o1⟩
      · rcases List.mem_append.mp (show a ∈ newA r v ++ newAs rs1 w from ha) with z | z
        · exact List.mem_append_left _ z
        · exact List.mem_append_right _ (a1 a z)
      · show (newA r v ++ newAs rs1 w).Nodup
        exact List.nodup_append.mpr ⟨n1, b1, fun a ha b hb => n3 a ha b (a1 b hb)⟩
      · rcases f1 b hb with z | z | ⟨z1, z2⟩
        · exact .inl z
        · exact .inr (.inl z)
        · refine .inr (.inr ⟨List.mem_append_right _ z1, fun z => ?_⟩)
          rcases List.mem_append.mp (show b ∈ newA r v ++ newAs rs1 w from z) with y | y
          · exact n3 b y b z1 rfl
          · exact z2 y
    · cases e
  | false :: ms, r :: rs, rs', vs, F, H, ε, ε', x, k, h, hn, nd, e => by
    obtain ⟨v, w, rfl, h1, h2⟩ := h
    unfold frzM at e
    split at e
    · rename_i d ε1 e1
      split at e
      · rename_i rs1 ε2 e2
        cases e
        have nd' : (newA r v ++ newAs rs w).Nodup := nd
        obtain ⟨n1, n2, n3⟩ := List.nodup_append.mp nd'
        obtain ⟨F1, k1, x1, r1, s1, f1, o1⟩ := frz_ok x k h1 (fun a ha => hn a (List.mem_append_left _ ha)) e1
        have h2' := h2.left s1 f1 o1 fun a ha hb => n3 a hb a ha rfl
        obtain ⟨F2, k2, x2, r2, s2, a2, b2, f2, o2⟩ := frzM_ok x1 k1 h2' (fun a ha => hn a (List.mem_append_right _ ha)) n2 e2
        refine ⟨F2, k2, x2, ⟨v, w, rfl, Rp.mono s2 _ _ r1, r2⟩, s1.trans s2, fun a ha => ?_, ?_, fun b hb => ?_, fun b hb => o1 b (o2 b hb)⟩
        · have ha : a ∈ newAs rs1 w := ha
          exact List.mem_append_right _ (a2 a ha)
        · exact b2
        · rcases f2 b hb with z | z | ⟨z1, z2⟩
          · rcases f1 b z with y | y | y
            · exact .inl y
            · exact .inr (.inr ⟨List.mem_append_left _ y, fun q => n3 b y b (a2 b q) rfl⟩)
            · exact .inr (.inl y)
          · exact .inr (.inl (o1 b z))
          · exact .inr (.inr ⟨List.mem_append_right _ z1, z2⟩)
      · cases e
    · cases e
  | [], _ :: _, rs', vs, F, H, ε, ε', x, k, h, hn, nd, e => by unfold frzM at e; cases e
  | true :: _, [], rs', vs, F, H, ε, ε', x, k, h, hn, nd, e => by unfold frzM at e; cases e
  | false :: _, [], rs', vs, F, H, ε, ε', x, k, h, hn, nd, e => by unfold frzM at e; cases e

theorem RpRs.get {K : PySem.W.Frag} {T : Tab} {F H : Hp} {σ : L2.St} {ε : En} : ∀ {rs : List R} {vs : List V} {i : Nat} {r : R}, RpRs K T F H σ ε rs vs → rs[i]? = some r → ∃ v, vs[i]? = some v ∧ RpR K T F H σ ε r v
  | [], vs, i, r, h, e => by simp at e
  | r0 :: rs, _, 0, r, ⟨v, w, rfl, h1, _⟩, e => by simp at e; subst e; exact ⟨v, rfl, h1⟩
  | r0 :: rs, _, i + 1, r, ⟨v, w, rfl, _, h2⟩, e => by
    obtain ⟨v', e1, h3⟩ := RpRs.get (i := i) (r := r) h2 (by simpa using e)
    exact ⟨v', by simpa using e1, h3⟩
theorem cSls_length {ε : En} : ∀ {ms : List Bool} {rs : List R} {ss : En}, cSls ε ms rs = some ss → ss.length = rs.length
  | [], [], ss, e => by unfold cSls at e; cases e; rfl
  | m :: ms, r :: rs, ss, e => by
    unfold cSls at e
    split at e
    · rename_i s ss' e1 e2
      cases e
      rw [List.length_cons, List.length_cons, cSls_length e2]
    · cases e
  | [], _ :: _, ss, e => by unfold cSls at e; cases e
  | _ :: _, [], ss, e => by unfold cSls at e; cases e
theorem cSls_get {ε : En} : ∀ {ms : List Bool} {rs : List R} {ss : En} {i : Nat} {s : Sl}, cSls ε ms rs = some ss → ss[i]? = some s → ∃ m r, rs[i]? = some r ∧ cSl ε m r = some s
  | [], [], ss, i, s, e, es => by unfold cSls at e; cases e; simp at es
  | m :: ms, r :: rs, ss, i, s, e, es => by
    unfold cSls at e
    split at e
    · rename_i s1 ss' e1 e2
      cases e
      cases i with
      | zero => simp at es; subst es; exact ⟨m, r, rfl, e1⟩
      | succ i => simpa using cSls_get (i := i) (s := s) e2 (by simpa using es)
    · cases e
  | [], _ :: _, ss, i, s, e, es => by unfold cSls at e; cases e
  | _ :: _, [], ss, i, s, e, es => by unfold cSls at e; cases e
theorem cSl_fz {ε : En} {m : Bool} {r : R} {d : D} (e : cSl ε m r = some (.fz d)) : r = .fz d := by
  cases m <;> cases r <;> simp only [cSl] at e
  · cases e; rfl
  all_goals (first | (cases e; done) | skip)
  split at e <;> cases e
theorem cSl_own {ε : En} {m : Bool} {r : R} {d : D} (e : cSl ε m r = some (.own d)) : r = .new d ∨ ∃ j, r = .at j ∧ ε[j]? = some (.own d) := by
  cases m <;> cases r <;> simp only [cSl] at e
  all_goals (first | (cases e; done) | skip)
  · cases e; exact .inl rfl
  · split at e
    · rename_i d' h; cases e; exact .inr ⟨_, rfl, h⟩
    · cases e
theorem upR_length : ∀ {rs : List R} {ss ε : En}, (upR rs ss ε).length = ε.length
  | [], ss, ε => by unfold upR; rfl
  | .at j :: rs, [], ε => by unfold upR; rfl
  | .fz _ :: rs, [], ε => by unfold upR; rfl
  | .new _ :: rs, [], ε => by unfold upR; rfl
  | .at j :: rs, s :: ss, ε => by unfold upR; rw [upR_length, List.length_set]
  | .fz _ :: rs, s :: ss, ε => by unfold upR; rw [upR_length]
  | .new _ :: rs, s :: ss, ε => by unfold upR; rw [upR_length]
theorem upR_get : ∀ {rs : List R} {ss ε : En} (j : Nat), (∃ (i : Nat) (s : Sl), rs[i]? = some (.at j) ∧ ss[i]? = some s ∧ (j < ε.length → (upR rs ss ε)[j]? = some s)) ∨ ((upR rs ss ε)[j]? = ε[j]? ∧ ∀ (i : Nat) (s : Sl), rs[i]? = some (.at j) → ss[i]? = some s → False)
  | [], ss, ε, j => by unfold upR; exact .inr ⟨rfl, fun i s h => by simp at h⟩
  | .at k :: rs, [], ε, j => by unfold upR; exact .inr ⟨rfl, fun i s _ h => by simp at h⟩
  | .fz _ :: rs, [], ε, j => by unfold upR; exact .inr ⟨rfl, fun i s _ h => by simp at h⟩
  | .new _ :: rs, [], ε, j => by unfold upR; exact .inr ⟨rfl, fun i s _ h => by simp at h⟩
  | .at k :: rs, s0 :: ss, ε, j => by
    unfold upR
    rcases upR_get (rs := rs) (ss := ss) (ε := ε.set k s0) j with ⟨i, s, h1, h2, h3⟩ | ⟨h1, h2⟩
    · exact .inl ⟨i + 1, s, by simpa using h1, by simpa using h2, fun hl => h3 (by rw [List.length_set]; exact hl)⟩
    · by_cases e : k = j
      · subst e
        exact .inl ⟨0, s0, rfl, rfl, fun hl => by rw [h1, List.getElem?_set_self hl]⟩
      · refine .inr ⟨by rw [h1, List.getElem?_set_ne e], fun i s e1 e2 => ?_⟩
        cases i with
        | zero => simp at e1; exact e e1
        | succ i => exact h2 i s (by simpa using e1) (by simpa using e2)
  | .fz d :: rs, s0 :: ss, ε, j => by
    unfold upR
    rcases upR_get (rs := rs) (ss := ss) (ε := ε) j with ⟨i, s, h1, h2, h3⟩ | ⟨h1, h2⟩
    · exact .inl ⟨i + 1, s, by simpa using h1, by simpa using h2, h3⟩
    · refine .inr ⟨h1, fun i s e1 e2 => ?_⟩
      cases i with
      | zero => simp at e1
      | succ i => exact h2 i s (by simpa using e1) (by simpa using e2)
  | .new d :: rs, s0 :: ss, ε, j => by
    unfold upR
    rcases upR_get (rs := rs) (ss := ss) (ε := ε) j with ⟨i, s, h1, h2, h3⟩ | ⟨h1, h2⟩
    · exact .inl ⟨i + 1, s, by simpa using h1, by simpa using h2, h3⟩
    · refine .inr ⟨h1, fun i s e1 e2 => ?_⟩
      cases i with
      | zero => simp at e1
      | succ i => exact h2 i s (by simpa using e1) (by simpa using e2)
theorem mem_newAs : ∀ {rs : List R} {vs : List V} {i : Nat} {d : D} {a : Addr}, rs[i]? = some (.new d) → vs[i]? = some (.ref a) → a ∈ newAs rs vs
  | [], vs, i, d, a, e, _ => by simp at e
  | r :: rs, [], i, d, a, _, e => by simp at e
  | r :: rs, v :: vs, 0, d, a, e1, e2 => by
    simp at e1 e2; subst e1 e2
    simp [newAs, newA]
  | r :: rs, v :: vs, i + 1, d, a, e1, e2 => by
    unfold newAs
    exact List.mem_append_right _ (mem_newAs (i := i) (d := d) (by simpa using e1) (by simpa using e2))
theorem newAs_inj : ∀ {rs : List R} {vs : List V} {i j : Nat} {d d' : D} {a : Addr}, (newAs rs vs).Nodup → rs[i]? = some (.new d) → rs[j]? = some (.new d') → vs[i]? = some (.ref a) → vs[j]? = some (.ref a) → i = j
  | [], vs, i, j, d, d', a, _, e, _, _, _ => by simp at e
  | r :: rs, [], i, j, d, d', a, _, _, _, e, _ => by simp at e
  | r :: rs, v :: vs, i, j, d, d', a, nd, e1, e2, s1, s2 => by
    have nd' : (newA r v ++ newAs rs vs).Nodup := nd
    obtain ⟨n1, n2, n3⟩ := List.nodup_append.mp nd'
    cases i with
    | zero =>
      cases j with
      | zero => rfl
      | succ j =>
        simp at e1 s1; subst e1 s1
        exact absurd rfl (n3 a (by simp [newA]) a (mem_newAs (i := j) (d := d') (by simpa using e2) (by simpa using s2)))
    | succ i =>
      cases j with
      | zero =>
        simp at e2 s2; subst e2 s2
        exact absurd rfl (n3 a (by simp [newA]) a (mem_newAs (i := i) (d := d) (by simpa using e1) (by simpa using s1)))
      | succ j => rw [newAs_inj (i := i) (j := j) (d := d) (d' := d') n2 (by simpa using e1) (by simpa using e2) (by simpa using s1) (by simpa using s2)]
theorem ats_inj : ∀ {rs : List R} {i k j : Nat}, (atsOf rs).Nodup → rs[i]? = some (.at j) → rs[k]? = some (.at j) → i = k := by
  have mem : ∀ {rs : List R} {i j : Nat}, rs[i]? = some (.at j) → j ∈ atsOf rs := by
    intro rs
    induction rs with
    | nil => intro i j e; simp at e
    | cons r rs ih =>
      intro i j e
      cases i with
      | zero => simp at e; subst e; simp [atsOf]
      | succ i =>
        have := ih (i := i) (j := j) (by simpa using e)
        cases r <;> simp [atsOf, this]
  intro rs
  induction rs with
  | nil => intro i k j _ e; simp at e
  | cons r rs ih =>
    intro i k j nd e1 e2
    cases i with
    | zero =>
      cases k with
      | zero => rfl
      | succ k =>
        simp at e1; subst e1
        have nd' : (j :: atsOf rs).Nodup := nd
        exact absurd (mem (i := k) (by simpa using e2)) (List.nodup_cons.mp nd').1
    | succ i =>
      cases k with
      | zero =>
        simp at e2; subst e2
        have nd' : (j :: atsOf rs).Nodup := nd
        exact absurd (mem (i := i) (by simpa using e1)) (List.nodup_cons.mp nd').1
      | succ k =>
        have nd' : (atsOf rs).Nodup := by
          cases r with
          | «at» q => exact (List.nodup_cons.mp (show (q :: atsOf rs).Nodup from nd)).2
          | fz d => exact nd
          | new d => exact nd
        rw [ih (i := i) (k := k) (j := j) nd' (by simpa using e1) (by simpa using e2)]

section
variable {K : PySem.W.Frag} {T : Tab} {W : WX}
theorem call_use {φ : En → O R} {n : Nat} {ms : List Bool} {F0 H0 F1 H1 : Hp} {σ : L2.St} {ε0 ε1 : En} {rs : List R} {vs : List V} {Q : VK} (hn : rs.length = n) (k1 : Ok K T F1 H1 σ ε1) (x1 : Ext F0 H0 σ ε0 F1 H1 σ ε1) (q1 : RpRs K T F1 H1 σ ε1 rs vs)
    (n1 : ∀ a ∈ newAs rs vs, H0 a = none) (nd1 : (newAs rs vs).Nodup) (p : Po K T W F0 H0 σ ε0 (vCall φ ms ε1 rs) (SE K T H0 σ Q)) : spD K T n φ vs H1 Q (WE W σ) := by
  unfold vCall at p
  cases e1 : frzM ε1 ms rs with
  | none => simp only [e1] at p; exact p.elim
  | some z =>
    obtain ⟨rs', ε2⟩ := z
    simp only [e1] at p
    obtain ⟨F2, k2, x2, q2, s2, a2, nd2, f2, o2⟩ := frzM_ok x1 k1 q1 n1 nd1 e1
    have n2 : ∀ a ∈ newAs rs' vs, H0 a = none := fun a ha => n1 a (a2 a ha)
    have hlen : vs.length = rs'.length := q2.length
    by_cases hnd : (atsOf rs').Nodup
    · rw [if_pos hnd] at p
      cases e2 : cSls ε2 ms rs' with
      | none => simp only [e2] at p; exact p.elim
      | some εc =>
        simp only [e2] at p
        have hlc : εc.length = rs'.length := cSls_length e2
        have vget : ∀ {i : Nat} {u : Option V}, (vs.map some)[i]? = some u → ∃ v, u = some v ∧ vs[i]? = some v := fun {i u} e => by
          rw [List.getElem?_map] at e
          cases h : vs[i]? with
          | none => rw [h] at e; cases e
          | some v => rw [h] at e; cases e; exact ⟨v, rfl, rfl⟩
        have vmk : ∀ {i : Nat} {v : V}, vs[i]? = some v → (vs.map some)[i]? = some (some v) := fun {i v} e => by rw [List.getElem?_map, e]; rfl
        -- an object that the callee owns
        have own1 : ∀ {i : Nat} {d : D} {a : Addr}, εc[i]? = some (.own d) → vs[i]? = some (.ref a) → (rs'[i]? = some (.new d) ∧ ¬ OwnAt σ ε2 a ∧ H0 a = none) ∨ ∃ j, rs'[i]? = some (.at j) ∧ ε2[j]? = some (.own d) ∧ σ[j]? = some (some (.ref a)) := fun {i d a} e ev => by
          obtain ⟨m, r, er, ec⟩ := cSls_get e2 e
          rcases cSl_own ec with rfl | ⟨j, rfl, ej⟩
          · obtain ⟨v, ev', b, o, eb, f, g, q, n⟩ := q2.get er
            rw [ev] at ev'; cases ev'; cases eb
            exact .inl ⟨er, n, n2 _ (mem_newAs er ev)⟩
          · obtain ⟨v, ev', h⟩ := q2.get er
            rw [ev] at ev'; cases ev'
            exact .inr ⟨j, er, ej, h⟩
        have kc : Ok K T F2 H1 (vs.map some) εc := by
          refine ⟨k2.sub, by rw [List.length_map, hlen, hlc], fun i d e => ?_, fun i d e => ?_, fun i j d d' a e3 e4 s3 s4 => ?_⟩
          · obtain ⟨m, r, er, ec⟩ := cSls_get e2 e
            have := cSl_fz ec
            subst this
            obtain ⟨v, ev, h⟩ := q2.get er
            exact ⟨v, vmk ev, h⟩
          · obtain ⟨m, r, er, ec⟩ := cSls_get e2 e
            obtain ⟨v, ev, h⟩ := q2.get er
            rcases cSl_own ec with rfl | ⟨j, rfl, ej⟩
            · obtain ⟨b, o, rfl, f, g, q, n⟩ := h
              exact ⟨b, o, vmk ev, f, g, q⟩
            · obtain ⟨b, o, s, f, g, q⟩ := k2.own j d ej
              rw [show σ[j]? = some (some v) from h] at s
              cases s
              exact ⟨b, o, vmk ev, f, g, q⟩
          · obtain ⟨v, ev, s3⟩ := vget s3
            cases ev
            obtain ⟨v, ev, s4⟩ := vget s4
            cases ev
            rcases own1 e3 s3 with ⟨r3, o3, _⟩ | ⟨j3, r3, w3, t3⟩
            · rcases own1 e4 s4 with ⟨r4, o4, _⟩ | ⟨j4, r4, w4, t4⟩
              · exact newAs_inj nd2 r3 r4 s3 s4
              · exact absurd ⟨j4, d', w4, t4⟩ o3
            · rcases own1 e4 s4 with ⟨r4, o4, _⟩ | ⟨j4, r4, w4, t4⟩
              · exact absurd ⟨j3, d, w3, t3⟩ o4
              · have : j3 = j4 := k2.sep j3 j4 d d' a w3 w4 t3 t4
                subst this
                exact ats_inj hnd r3 r4
        -- .. is a new one, or one of the caller's
        have own2 : ∀ a, OwnAt (vs.map some) εc a → OwnAt σ ε2 a ∨ H0 a = none := fun a ⟨i, d, e, s⟩ => by
          obtain ⟨v, ev, s⟩ := vget s
          cases ev
          rcases own1 e s with ⟨_, _, h⟩ | ⟨j, _, w, t⟩
          · exact .inr h
          · exact .inl ⟨j, d, w, t⟩
        have own3 : ∀ a, OwnAt (vs.map some) εc a → OwnAt σ ε0 a ∨ H0 a = none := fun a h => (own2 a h).elim (fun z => x2.on a z) .inr
        -- behind the call
        have back : ∀ {F' H' : Hp} {εc' : En}, Ok K T F' H' (vs.map some) εc' → Ext F2 H1 (vs.map some) εc F' H' (vs.map some) εc' → Ok K T F' H' σ (upR rs' εc' ε2) ∧ Ext F0 H0 σ ε0 F' H' σ (upR rs' εc' ε2) ∧ (∀ a, OwnAt σ (upR rs' εc' ε2) a → OwnAt (vs.map some) εc' a ∨ OwnAt σ ε2 a) := by
          intro F' H' εc' k' x'
          have hlc' : εc'.length = rs'.length := by rw [← k'.len, List.length_map, hlen]
          have some_of : ∀ {i j : Nat}, rs'[i]? = some (.at j) → ∃ s, εc'[i]? = some s := fun {i j} e => by
            have hi : i < rs'.length := (List.getElem?_eq_some_iff.mp e).1
            exact ⟨_, List.getElem?_eq_getElem (by rw [hlc']; exact hi)⟩
          have slot : ∀ {i j : Nat}, rs'[i]? = some (.at j) → ∃ v, vs[i]? = some v ∧ σ[j]? = some (some v) := fun {i j} e => by
            obtain ⟨v, ev, h⟩ := q2.get e
            exact ⟨v, ev, h⟩
          have rng : ∀ {i j : Nat}, rs'[i]? = some (.at j) → j < ε2.length := fun {i j} e => by
            obtain ⟨v, _, h⟩ := slot e
            rw [← k2.len]
            exact (List.getElem?_eq_some_iff.mp h).1
          -- what the callee does not own stays
          have stay : ∀ {j : Nat} {d : D} {a : Addr} {o : HO}, ε2[j]? = some (.own d) → σ[j]? = some (some (.ref a)) → H1 a = some o → F2 a = none → (∀ (i : Nat) (s : Sl), rs'[i]? = some (.at j) → εc'[i]? = some s → False) → H' a = some o ∧ F' a = none := fun {j d a o} ej sj h1 f1 no => by
            have nc : ¬ OwnAt (vs.map some) εc a := fun ⟨i, d', e, s⟩ => by
              obtain ⟨v, ev, s⟩ := vget s
              cases ev
              rcases own1 e s with ⟨_, n, _⟩ | ⟨j', r', w, t⟩
              · exact n ⟨j, d, ej, sj⟩
              · have : j' = j := k2.sep j' j d' d a w ej t sj
                subst this
                obtain ⟨s', es'⟩ := some_of r'
                exact no i s' r' es'
            refine ⟨x'.hk a o h1 nc, ?_⟩
            cases h : F' a with
            | none => rfl
            | some u =>
              rcases x'.fn a (by rw [h]; simp) with z | z | z
              · exact absurd f1 z
              · rw [h1] at z; cases z
              · exact absurd z nc
          have kO : Ok K T F' H' σ (upR rs' εc' ε2) := by
            refine ⟨k'.sub, by rw [upR_length]; exact k2.len, fun j d e => ?_, fun j d e => ?_, fun j1 j2 d1 d2 a e3 e4 s3 s4 => ?_⟩
            · rcases upR_get (rs := rs') (ss := εc') (ε := ε2) j with ⟨i, s, r1, r2, r3⟩ | ⟨r1, _⟩
              · rw [r3 (rng r1)] at e
                cases e
                obtain ⟨v, ev, h⟩ := k'.fz i d r2
                obtain ⟨u, eu, ev⟩ := vget ev
                cases eu
                obtain ⟨w, ew, sw⟩ := slot r1
                rw [ev] at ew; cases ew
                exact ⟨v, sw, h⟩
              · rw [r1] at e
                obtain ⟨v, ev, h⟩ := k2.fz j d e
                exact ⟨v, ev, Rp.mono x'.fs _ _ h⟩
            · rcases upR_get (rs := rs') (ss := εc') (ε := ε2) j with ⟨i, s, r1, r2, r3⟩ | ⟨r1, r2⟩
              · rw [r3 (rng r1)] at e
                cases e
                obtain ⟨a, o, ev, h⟩ := k'.own i d r2
                obtain ⟨u, eu, ev⟩ := vget ev
                cases eu
                obtain ⟨w, ew, sw⟩ := slot r1
                rw [ev] at ew; cases ew
                exact ⟨a, o, sw, h⟩
              · rw [r1] at e
                obtain ⟨a, o, ev, f, g, q⟩ := k2.own j d e
                obtain ⟨g', f'⟩ := stay e ev g f r2
                exact ⟨a, o, ev, f', g', q.mono x'.fs⟩
            · rcases upR_get (rs := rs') (ss := εc') (ε := ε2) j1 with ⟨i1, u1, r1, r2, r3⟩ | ⟨r1, r2⟩
              · rw [r3 (rng r1)] at e3
                cases e3
                obtain ⟨w1, ew1, sw1⟩ := slot r1
                rw [s3] at sw1; cases sw1
                rcases upR_get (rs := rs') (ss := εc') (ε := ε2) j2 with ⟨i2, u2, t1, t2, t3⟩ | ⟨t1, t2⟩
                · rw [t3 (rng t1)] at e4
                  cases e4
                  obtain ⟨w2, ew2, sw2⟩ := slot t1
                  rw [s4] at sw2; cases sw2
                  have : i1 = i2 := k'.sep i1 i2 d1 d2 a r2 t2 (vmk ew1) (vmk ew2)
                  subst this
                  rw [r1] at t1; cases t1; rfl
                · rw [t1] at e4
                  obtain ⟨sc, esc⟩ : ∃ sc, εc[i1]? = some sc := by
                    have hi : i1 < rs'.length := (List.getElem?_eq_some_iff.mp r1).1
                    exact ⟨_, List.getElem?_eq_getElem (by rw [hlc]; exact hi)⟩
                  obtain ⟨m, r, er, ec⟩ := cSls_get e2 esc
                  rw [r1] at er; cases er
                  have hc : ∃ d0, ε2[j1]? = some (.own d0) := by
                    cases m with
                    | false => cases ec
                    | true =>
                      simp only [cSl] at ec
                      split at ec
                      · rename_i d0 h0; exact ⟨d0, h0⟩
                      · cases ec
                  obtain ⟨d0, h0⟩ := hc
                  have : j1 = j2 := k2.sep j1 j2 d0 d2 a h0 e4 s3 s4
                  subst this
                  exact (t2 i1 _ r1 r2).elim
              · rw [r1] at e3
                rcases upR_get (rs := rs') (ss := εc') (ε := ε2) j2 with ⟨i2, u2, t1, t2, t3⟩ | ⟨t1, t2⟩
                · rw [t3 (rng t1)] at e4
                  cases e4
                  obtain ⟨sc, esc⟩ : ∃ sc, εc[i2]? = some sc := by
                    have hi : i2 < rs'.length := (List.getElem?_eq_some_iff.mp t1).1
                    exact ⟨_, List.getElem?_eq_getElem (by rw [hlc]; exact hi)⟩
                  obtain ⟨m, r, er, ec⟩ := cSls_get e2 esc
                  rw [t1] at er; cases er
                  have hc : ∃ d0, ε2[j2]? = some (.own d0) := by
                    cases m with
                    | false => cases ec
                    | true =>
                      simp only [cSl] at ec
                      split at ec
                      · rename_i d0 h0; exact ⟨d0, h0⟩
                      · cases ec
                  obtain ⟨d0, h0⟩ := hc
                  have : j1 = j2 := k2.sep j1 j2 d1 d0 a e3 h0 s3 s4
                  subst this
                  exact (r2 i2 _ t1 t2).elim
                · rw [t1] at e4
                  exact k2.sep j1 j2 d1 d2 a e3 e4 s3 s4
          have on' : ∀ a, OwnAt σ (upR rs' εc' ε2) a → OwnAt (vs.map some) εc' a ∨ OwnAt σ ε2 a := fun a ⟨j, d, e, s⟩ => by
            rcases upR_get (rs := rs') (ss := εc') (ε := ε2) j with ⟨i, u, r1, r2, r3⟩ | ⟨r1, r2⟩
            · rw [r3 (rng r1)] at e
              cases e
              obtain ⟨w, ew, sw⟩ := slot r1
              rw [s] at sw; cases sw
              exact .inl ⟨i, d, r2, vmk ew⟩
            · rw [r1] at e
              exact .inr ⟨j, d, e, s⟩
          refine ⟨kO, ⟨x2.fs.trans x'.fs, fun a o h n => x'.hk a o (x2.hk a o h n) fun z => ?_, fun a h => x2.ht a (x'.ht a h), fun a h => ?_, fun a h => ?_⟩, on'⟩
          · rcases own3 a z with y | y
            · exact n y
            · rw [h] at y; cases y
          · rcases x'.fn a h with z | z | z
            · exact x2.fn a z
            · exact .inr (.inl (x2.ht a z))
            · exact (own3 a z).elim (fun y => .inr (.inr y)) fun y => .inr (.inl y)
          · rcases on' a h with z | z
            · rcases x'.on a z with y | y
              · exact own3 a y
              · exact .inr (x2.ht a y)
            · exact x2.on a z
        refine ⟨by rw [hlen]; exact (by
          have := q1.length
          rw [← hn, ← this, hlen]), F2, εc, kc, ?_⟩
        cases e3 : φ εc with
        | bad => simp only [e3] at p; exact p.elim
        | exn c εc' =>
          simp only [e3] at p
          intro F' H' k' x'
          obtain ⟨kO, xO, _⟩ := back k' x'
          exact p F' H' kO xO
        | ok r εc' =>
          simp only [e3] at p
          intro F' H' k' x' v hv hnew
          obtain ⟨kO, xO, on'⟩ := back k' x'
          cases r with
          | fz d => exact p F' H' kO xO v hv (by simp [newA])
          | new d =>
            obtain ⟨a, o, rfl, f, g, q, n⟩ := hv
            have ha : H1 a = none := hnew a (by simp [newA])
            refine p F' H' kO xO (.ref a) ⟨a, o, rfl, f, g, q, fun z => ?_⟩ fun b hb => ?_
            · rcases on' a z with y | y
              · exact n y
              · obtain ⟨j, d', ej, sj⟩ := y
                obtain ⟨b, o', s, _, g', _⟩ := k2.own j d' ej
                rw [sj] at s; cases s
                rw [ha] at g'; cases g'
            · have eb : b = a := by simpa [newA] using hb
              subst eb
              exact x2.ht _ ha
          | «at» i =>
            have p : Po K T W F0 H0 σ ε0 (match (match rs'[i]? with | some (.at j) => some (R.at j) | _ => none) with | some r' => .ok r' (upR rs' εc' ε2) | none => .bad) (SE K T H0 σ Q) := p
            cases er : rs'[i]? with
            | none => rw [er] at p; exact p.elim
            | some r0 =>
              rw [er] at p
              cases r0 with
              | fz d => exact p.elim
              | new d => exact p.elim
              | «at» j =>
                obtain ⟨w, ew, hw⟩ := q2.get er
                have hv' : (vs.map some)[i]? = some (some v) := hv
                obtain ⟨u, eu, hu⟩ := vget hv'
                cases eu
                rw [hu] at ew; cases ew
                exact p F' H' kO xO v hw (by simp [newA])
    · rw [if_neg hnd] at p; exact p.elim
end

/-! ### the rules -/
section
variable {X : Cx} {T : Tab} {W : WX} {e : Expr} {es : List Expr} {fs : En → O (List R)} {pos p : Pos} {k n : Nat} {f : Addr} {fd : FuncData} {ps : List Str} {x : Str} {φ : En → O R}
theorem len_of {K : PySem.W.Frag} {es : List Expr} {fs : En → O (List R)} (h : DA X T W es fs) : True := trivial
/-- a call whose answer is flat: nothing of the caller's is changed -/
theorem de_callB (F : FnOk X.prog X.w X.K X.mg X.base (L2.CX X.prog X.w) k f fd ps (spD X.K T n φ)) (hr : Room k X.A) (hg : Gl X x) (hm : X.mg x = some (.ref f)) (hk : PySem.W.keepIn X.K (.ref f) = true) (hb : Binds X.K fd ps []) (tk : Takes X W)
    (ha : DA X T W (e :: es) fs) (hn : ∀ ε rs ε', fs ε = .ok rs ε' → rs.length = n) (hdb : (x == ("__debug__" : Str)) = false := by decide) (he : starEach (e :: es) X.env = (false, eval e X.env) :: starEach es X.env := by rfl) (hpl : (backTo pos (starEach es X.env)).any (·.1) = false := by rfl) :
    DE X T W (.Call (.Name x p) (e :: es) [] pos) (dCallB φ fs) := by
  refine PE.imp (pe_callS F hr hg hm hk hb (fun σ => passAt tk σ) ha hdb he hpl) fun σ H Q q => ?_
  obtain ⟨F, ε, k, p⟩ := q
  show tDA X.K T W fs σ H fun vs H1 => spD X.K T n φ vs H1 Q (WE W σ)
  have p : Po X.K T W F H σ ε ((fs ε).bind fun rs ε1 => vCallB φ ε1 rs) (SE X.K T H σ Q) := p
  refine ⟨F, ε, k, ?_⟩
  cases e1 : fs ε with
  | bad => rw [e1] at p; exact p
  | exn c ε1 => rw [e1] at p; exact p
  | ok rs ε1 =>
    rw [e1] at p
    exact fun F1 H1 k1 x1 vs hv hn' nd => callB_use (hn _ _ _ e1) k1 x1 hv p
theorem de_call (ms : List Bool) (F : FnOk X.prog X.w X.K X.mg X.base (L2.CX X.prog X.w) k f fd ps (spD X.K T n φ)) (hr : Room k X.A) (hg : Gl X x) (hm : X.mg x = some (.ref f)) (hk : PySem.W.keepIn X.K (.ref f) = true) (hb : Binds X.K fd ps []) (tk : Takes X W)
    (ha : DA X T W (e :: es) fs) (hn : ∀ ε rs ε', fs ε = .ok rs ε' → rs.length = n) (hdb : (x == ("__debug__" : Str)) = false := by decide) (he : starEach (e :: es) X.env = (false, eval e X.env) :: starEach es X.env := by rfl) (hpl : (backTo pos (starEach es X.env)).any (·.1) = false := by rfl) :
    DE X T W (.Call (.Name x p) (e :: es) [] pos) (dCall φ ms fs) := by
  refine PE.imp (pe_callS F hr hg hm hk hb (fun σ => passAt tk σ) ha hdb he hpl) fun σ H Q q => ?_
  obtain ⟨F, ε, k, p⟩ := q
  show tDA X.K T W fs σ H fun vs H1 => spD X.K T n φ vs H1 Q (WE W σ)
  have p : Po X.K T W F H σ ε ((fs ε).bind fun rs ε1 => vCall φ ms ε1 rs) (SE X.K T H σ Q) := p
  refine ⟨F, ε, k, ?_⟩
  cases e1 : fs ε with
  | bad => rw [e1] at p; exact p
  | exn c ε1 => rw [e1] at p; exact p
  | ok rs ε1 =>
    rw [e1] at p
    exact fun F1 H1 k1 x1 vs hv hn' nd => call_use (hn _ _ _ e1) k1 x1 hv hn' nd p
/-- how many arguments -/
def Len (fs : En → O (List R)) (n : Nat) : Prop := ∀ ε rs ε', fs ε = .ok rs ε' → rs.length = n
theorem len_nil : Len dNil 0 := fun ε rs ε' e => by cases e; rfl
theorem len_cons {f : En → O R} {g : En → O (List R)} {n : Nat} (h : Len g n) : Len (dCons f g) (n + 1) := fun ε rs ε' e => by
  unfold dCons at e
  cases e1 : f ε with
  | bad => rw [e1] at e; cases e
  | exn c ε1 => rw [e1] at e; cases e
  | ok r ε1 =>
    rw [e1] at e
    have e : (g ε1).bind (fun rs ε2 => O.ok (r :: rs) ε2) = .ok rs ε' := e
    cases e2 : g ε1 with
    | bad => rw [e2] at e; cases e
    | exn c ε2 => rw [e2] at e; cases e
    | ok rs' ε2 =>
      rw [e2] at e
      cases e
      rw [List.length_cons, h _ _ _ e2]
end
end DL

/-! DL8: iterators over lists and tuples in any mix: enumerate, zip of two and of three (at the hand layer's level) -/
namespace DL
open PySem PySem.Spec PyProof.Rows L2

inductive Kd where
  | l | t
def kIt (k : Kd) (h : Heap) (it a : Addr) (i : Nat) : Prop := match k with
  | .l => h.IsListIter it a i
  | .t => h.IsTupleIter it a i
def kAt (k : Kd) (h : Heap) (a : Addr) (items : Array Value) : Prop := match k with
  | .l => h.IsList a items
  | .t => h.IsTuple a items
def kSq (k : Kd) (K : PySem.W.Frag) (H : Hp) (a : Addr) (xs : List V) : Prop := match k with
  | .l => SqL K H a xs
  | .t => SqT K H a xs
def kOb (k : Kd) (a : Addr) : Obj := match k with
  | .l => { cls := .type "list_iterator", data := .fields #[.ref a, .int 0 0] }
  | .t => { cls := .type "tuple_iterator", data := .fields #[.ref a, .int 0 0] }
theorem kDraws {prog : Program} {w : World} {A : Around} (k : Kd) (hh : A.handled = none) (it a : Addr) (hne : a ≠ it) (items : Array Value) :
    Draws prog w A it [it, a] items.size (fun i v => items[i]? = some v) (fun i h => kIt k h it a i ∧ kAt k h a items) := by
  cases k with
  | l => exact Draws.list hh it a hne items
  | t => exact Draws.tuple hh it a hne items
theorem kBegins (k : Kd) (a : Addr) (items : Array Value) : Begins (.ref a) (kOb k a) (fun h => kAt k h a items) := by
  cases k with
  | l => exact begins_list a items
  | t => exact begins_tuple a items
theorem kIt_new {k : Kd} {h : Heap} {it a : Addr} (e : h.get? it = some (kOb k a)) : kIt k h it a 0 := by
  cases k with
  | l => exact ⟨_, e, rfl, rfl⟩
  | t => exact ⟨_, e, rfl, rfl⟩
theorem kIt_at {k : Kd} {h h' : Heap} {it a : Addr} {i : Nat} (x : kIt k h it a i) (e : ∀ o, h.get? it = some o → h'.get? it = some o) : kIt k h' it a i := by
  cases k with
  | l => exact Heap.IsListIter.at x e
  | t => exact Heap.IsTupleIter.at x e
theorem kIt_obj {k : Kd} {h : Heap} {it a : Addr} {i : Nat} (x : kIt k h it a i) : ∃ o, h.get? it = some o ∧ ∀ v, o.data ≠ .cell v := by
  cases k with
  | l => obtain ⟨o, e, c, d⟩ := x; exact ⟨o, e, fun v q => by rw [d] at q; cases q⟩
  | t => obtain ⟨o, e, c, d⟩ := x; exact ⟨o, e, fun v q => by rw [d] at q; cases q⟩
theorem kInv {X : Cx} {pins : List (Addr × Obj)} {σ : L2.St} {H : Hp} {s : Shared} {k : Kd} {a : Addr} {xs : List V} (I : Inv X pins σ H s) (h : kSq k X.K H a xs) : ∃ its : List Value, Vals xs its ∧ kAt k s.heap a its.toArray ∧ a < s.heap.objs.size := by
  cases k with
  | l =>
    obtain ⟨its, r, p, _⟩ := I.list h
    exact ⟨its, r, p.isList, p.lt⟩
  | t =>
    obtain ⟨its, r, p, _⟩ := I.tuple h
    exact ⟨its, r, show s.heap.IsTuple a its.toArray from p, p.lt⟩
theorem kInj {X : Cx} {pins : List (Addr × Obj)} {σ : L2.St} {H : Hp} {s : Shared} {k : Kd} {a : Addr} {xs ys : List V} (I : Inv X pins σ H s) (h : kSq k X.K H a xs) (h' : kSq k X.K H a ys) : xs = ys := by
  cases k with
  | l => exact I.list_inj h h'
  | t => exact I.tuple_inj h h'

/-! ### enumerate -/
def ItE (K : PySem.W.Frag) (k : Kd) (a : Addr) : It :=
  ⟨fun i H => ∃ (xs : List V) (x : V), kSq k K H a xs ∧ xs[i]? = some x, fun i H v H' => ∃ T x o, v = .ref T ∧ H T = none ∧ o.dict = none ∧ H' = upd H T (.frz o (.tup [.int (i : Nat), x])) ∧ ∀ xs, kSq k K H a xs → xs[i]? = some x, fun i H => ∃ xs : List V, kSq k K H a xs ∧ xs.length = i⟩
theorem turn_enumK {P : Program} {w : World} {K : PySem.W.Frag} {elts : List Expr} {kk : Nat} {tpos : Pos} (k : Kd) (a e it : Addr) (h1 : e ≠ it) (h2 : a ≠ it) (h3 : e ≠ a) :
    Turn P w K (.Tuple elts kk tpos) (ItE K k a) [e, it] e (fun i h => (∃ old, IsEnum h e it ((i : Nat) : Int) old) ∧ kIt k h it a i) where
  mem := by simp
  obj := fun i h st b hb => by
    obtain ⟨⟨old, he⟩, hi⟩ := st
    have e' : b = e ∨ b = it := by simpa using hb
    rcases e' with z | z
    · rw [z]; exact ⟨_, he, fun v q => nomatch q⟩
    · rw [z]; exact kIt_obj hi
  keep := fun i h h' st k => let ⟨⟨old, he⟩, hi⟩ := st; ⟨⟨old, k e (by simp) _ he⟩, kIt_at hi fun o q => k it (by simp) o q⟩
  item := by
    intro X hP hw hK hc i pins s σ H E I hf st hg
    subst hP hw hK
    obtain ⟨⟨old, he⟩, hit⟩ := st
    obtain ⟨xs, x, hq, hx⟩ := hg
    obtain ⟨its, rv, p, hal⟩ := kInv I hq
    obtain ⟨u, hu, ru⟩ := rv.get hx
    have hel : e < s.heap.objs.size := Heap.lt_size he
    have hil : it < s.heap.objs.size := by obtain ⟨_, q, _⟩ := kIt_obj hit; exact Heap.lt_size q
    have hlt : i < its.toArray.size := by simpa using (List.getElem?_eq_some_iff.mp hu).1
    refine wpAny_pyNext_enum_itemC (kDraws k (by show X.A.in1.handled = none; exact I.ok.hd hc) it a h2 its.toArray) he ⟨hit, p⟩ hlt h1 (by simp [h1, h3]) fun x' h' tk hx' ho hit' hT hsz hk => ?_
    have eu : x' = u := by
      have : its.toArray[i]? = some u := by simpa using hu
      rw [this] at hx'; exact (Option.some.inj hx').symm
    subst eu
    refine ⟨_, rfl, wpAny_letOwnedTupleGo_enum (s := { s with heap := h', toks := tk + 1 }) ho fun h'' he' sb => ?_⟩
    have hT2 : h''.get? s.heap.objs.size = some { cls := .type "tuple", data := .seq #[.int i tk, x'] } := (sb.2 _ (Nat.ne_of_gt hel)).trans hT
    have new : ObjOk X.prog X.w (upd H s.heap.objs.size (.frz { cls := .type "tuple", data := .seq #[.int i tk, x'] } (.tup [.int (i : Nat), x]))) h'' s.heap.objs.size (.frz { cls := .type "tuple", data := .seq #[.int i tk, x'] } (.tup [.int (i : Nat), x])) :=
      ⟨hT2, by show 2 ≤ sizeLine; decide, [.int i tk, x'], .cons ⟨_, rfl⟩ (.cons ru .nil), ⟨_, hT2, rfl, _, rfl⟩⟩
    have I1 : Inv X pins σ (upd H s.heap.objs.size (.frz { cls := .type "tuple", data := .seq #[.int i tk, x'] } (.tup [.int (i : Nat), x]))) { s with heap := h'', toks := tk + 1 } :=
      I.turnedNew (ch := [e, it]) (fun b ob hb q => (sb.2 b (fun z => hb (by simp [z]))).trans (hk b ob (fun z => hb (by simp [z])) (fun z => hb (by simp [z])) q)) hf (Nat.le_refl _) new
    refine ⟨.ref s.heap.objs.size, _, I1, rfl, ⟨_, x, _, rfl, I.hok.fresh (Nat.le_refl _), rfl, rfl, fun ys hy => by rw [kInj I hy hq]; exact hx⟩, ⟨⟨x', ?_⟩, kIt_at hit'.1 fun o q => (sb.2 it (Ne.symm h1)).trans q⟩, fun b hb => ?_⟩
    · have e1 : ((i + 1 : Nat) : Int) = (i : Int) + 1 := by omega
      rw [e1]; exact he'
    · have hb' : b < s.heap.objs.size := by
        have e' : b = e ∨ b = it := by simpa using hb
        rcases e' with z | z
        · rw [z]; exact hel
        · rw [z]; exact hil
      rw [upd_ne (Nat.ne_of_lt hb')]
      exact (hf b hb).1
  done := by
    intro X hP hw hK hc i pins s σ H E I hf st hg
    subst hP hw hK
    obtain ⟨⟨old, he⟩, hit⟩ := st
    obtain ⟨xs, hq, hx⟩ := hg
    obtain ⟨its, rv, p, _⟩ := kInv I hq
    have hl : its.toArray.size = i := by rw [List.size_toArray, ← rv.length]; exact hx
    exact wpAny_pyNext_enum_endD (kDraws k (by show X.A.in1.handled = none; exact I.ok.hd hc) it a h2 its.toArray) he (by rw [hl]; exact ⟨hit, p⟩) fun h' eb => ⟨rfl, I.turnedL (t' := s.toks) (ch := [e, it]) (fun b o hb q => eb b o (fun z => hb (by simp [z])) q) hf⟩
  self := fun A i s Q E st h => let ⟨⟨_, he⟩, _⟩ := st; wpAny_pyIter_enum he h

/-! ### zip of two -/
def ItZ2 (K : PySem.W.Frag) (k1 k2 : Kd) (a b : Addr) : It :=
  ⟨fun i H => ∃ (xs ys : List V) (x y : V), kSq k1 K H a xs ∧ kSq k2 K H b ys ∧ xs[i]? = some x ∧ ys[i]? = some y,
    fun i H v H' => ∃ T x y o, v = .ref T ∧ H T = none ∧ o.dict = none ∧ H' = upd H T (.frz o (.tup [x, y])) ∧ (∀ xs, kSq k1 K H a xs → xs[i]? = some x) ∧ ∀ ys, kSq k2 K H b ys → ys[i]? = some y,
    fun i H => ∃ xs ys : List V, kSq k1 K H a xs ∧ kSq k2 K H b ys ∧ i = min xs.length ys.length⟩
theorem turn_zip2K {P : Program} {w : World} {K : PySem.W.Frag} {elts : List Expr} {kk : Nat} {tpos : Pos} (k1 k2 : Kd) {a b z TI TO i1 i2 : Addr} (S : ZipSep2 z TI TO i1 i2 [i1, a] [i2, b]) (n1 : a ≠ i1) (n2 : b ≠ i2) :
    Turn P w K (.Tuple elts kk tpos) (ItZ2 K k1 k2 a b) [z, TI, TO, i1, i2] z (fun i h => IsZip h z TI TO .none ∧ IsTupOf2 h TI (.ref i1) (.ref i2) ∧ (∃ x y, IsTupOf2 h TO x y) ∧ kIt k1 h i1 a i ∧ kIt k2 h i2 b i) where
  mem := by simp
  obj := fun i h st c hc => by
    obtain ⟨hz, hTI, ⟨x, y, hTO⟩, h1, h2⟩ := st
    have e' : c = z ∨ c = TI ∨ c = TO ∨ c = i1 ∨ c = i2 := by simpa using hc
    rcases e' with q | q | q | q | q
    · rw [q]; exact ⟨_, hz, fun v q => nomatch q⟩
    · rw [q]; exact ⟨_, hTI, fun v q => nomatch q⟩
    · rw [q]; exact ⟨_, hTO, fun v q => nomatch q⟩
    · rw [q]; exact kIt_obj h1
    · rw [q]; exact kIt_obj h2
  keep := fun i h h' st k => by
    obtain ⟨hz, hTI, ⟨x, y, hTO⟩, h1, h2⟩ := st
    exact ⟨k z (by simp) _ hz, k TI (by simp) _ hTI, ⟨x, y, k TO (by simp) _ hTO⟩, kIt_at h1 fun o q => k i1 (by simp) o q, kIt_at h2 fun o q => k i2 (by simp) o q⟩
  item := by
    intro X hP hw hK hc i pins s σ H E I hf st hg
    subst hP hw hK
    obtain ⟨hz, hTI, ⟨x0, y0, hTO⟩, h1, h2⟩ := st
    obtain ⟨xs, ys, x, y, hqx, hqy, hx, hy⟩ := hg
    obtain ⟨its, rv, p, hal⟩ := kInv I hqx
    obtain ⟨its2, rv2, p2, hbl⟩ := kInv I hqy
    obtain ⟨u, hu, ru⟩ := rv.get hx
    obtain ⟨u2, hu2, ru2⟩ := rv2.get hy
    have hzl : z < s.heap.objs.size := Heap.lt_size hz
    have hlt : i < its.toArray.size := by simpa using (List.getElem?_eq_some_iff.mp hu).1
    have hlt2 : i < its2.toArray.size := by simpa using (List.getElem?_eq_some_iff.mp hu2).1
    have hh : X.A.in1.handled = none := I.ok.hd hc
    refine wpAny_pyNext_zipD2_item S (kDraws k1 hh i1 a n1 its.toArray) (kDraws k2 hh i2 b n2 its2.toArray) hz hTI hTO ⟨h1, p⟩ ⟨h2, p2⟩ hlt hlt2 fun x' y' h' tk hx' hy' z' TO' h1' h2' hT hsz hk => ?_
    have eu : x' = u := by
      have : its.toArray[i]? = some u := by simpa using hu
      rw [this] at hx'; exact (Option.some.inj hx').symm
    have eu2 : y' = u2 := by
      have : its2.toArray[i]? = some u2 := by simpa using hu2
      rw [this] at hy'; exact (Option.some.inj hy').symm
    subst eu eu2
    refine ⟨_, rfl, wpAny_letOwnedTupleGo_zip (s := { s with heap := h', toks := tk }) z' fun h'' z'' sb => ?_⟩
    have hT2 : h''.get? s.heap.objs.size = some { cls := .type "tuple", data := .seq #[x', y'] } := (sb.2 _ (Nat.ne_of_gt hzl)).trans hT
    have new : ObjOk X.prog X.w (upd H s.heap.objs.size (.frz { cls := .type "tuple", data := .seq #[x', y'] } (.tup [x, y]))) h'' s.heap.objs.size (.frz { cls := .type "tuple", data := .seq #[x', y'] } (.tup [x, y])) :=
      ⟨hT2, by show 2 ≤ sizeLine; decide, [x', y'], .cons ru (.cons ru2 .nil), ⟨_, hT2, rfl, _, rfl⟩⟩
    have I1 : Inv X pins σ (upd H s.heap.objs.size (.frz { cls := .type "tuple", data := .seq #[x', y'] } (.tup [x, y]))) { s with heap := h'', toks := tk } :=
      I.turnedNew (ch := [z, TI, TO, i1, i2]) (fun c o hb q => (sb.2 c (fun q' => hb (by simp [q']))).trans (hk c o (fun q' => hb (by simp [q'])) (fun q' => hb (by simp [q'])) (fun q' => hb (by simp [q'])) (fun q' => hb (by simp [q'])) q)) hf (Nat.le_refl _) new
    refine ⟨.ref s.heap.objs.size, _, I1, rfl, ⟨_, x, y, _, rfl, I.hok.fresh (Nat.le_refl _), rfl, rfl, fun l hl => by rw [kInj I hl hqx]; exact hx, fun l hl => by rw [kInj I hl hqy]; exact hy⟩, ⟨z'', ?_, ⟨x', y', ?_⟩, ?_, ?_⟩, fun c hcm => ?_⟩
    · exact (sb.2 _ S.TIz).trans (hk _ _ S.TIz S.TITO S.TIi1 S.TIi2 hTI)
    · exact (sb.2 _ S.TOz).trans TO'
    · exact kIt_at h1'.1 fun o q => (sb.2 _ S.zi1.symm).trans q
    · exact kIt_at h2'.1 fun o q => (sb.2 _ S.zi2.symm).trans q
    · have hlt : c < s.heap.objs.size := by
        have e' : c = z ∨ c = TI ∨ c = TO ∨ c = i1 ∨ c = i2 := by simpa using hcm
        rcases e' with q | q | q | q | q
        · rw [q]; exact hzl
        · rw [q]; exact Heap.lt_size hTI
        · rw [q]; exact Heap.lt_size hTO
        · rw [q]; obtain ⟨_, e1, _⟩ := kIt_obj h1; exact Heap.lt_size e1
        · rw [q]; obtain ⟨_, e2, _⟩ := kIt_obj h2; exact Heap.lt_size e2
      rw [upd_ne (Nat.ne_of_lt hlt)]
      exact (hf c hcm).1
  done := by
    intro X hP hw hK hc i pins s σ H E I hf st hg
    subst hP hw hK
    obtain ⟨hz, hTI, ⟨x0, y0, hTO⟩, h1, h2⟩ := st
    obtain ⟨xs, ys, hqx, hqy, hend⟩ := hg
    obtain ⟨its, rv, p, _⟩ := kInv I hqx
    obtain ⟨its2, rv2, p2, _⟩ := kInv I hqy
    have l1 : its.toArray.size = xs.length := by rw [List.size_toArray, ← rv.length]
    have l2 : its2.toArray.size = ys.length := by rw [List.size_toArray, ← rv2.length]
    have hh : X.A.in1.handled = none := I.ok.hd hc
    exact wpAny_pyNext_zipD2_end S (kDraws k1 hh i1 a n1 its.toArray) (kDraws k2 hh i2 b n2 its2.toArray) hz hTI hTO ⟨h1, p⟩ ⟨h2, p2⟩ (by omega) (by omega) (by omega) fun h' tk hk => ⟨rfl, I.turnedL (t' := tk) (ch := [z, TI, TO, i1, i2]) (fun c o hb q =>
      hk c o (fun q' => hb (by simp [q'])) (fun q' => hb (by simp [q'])) (fun q' => hb (by simp [q'])) (fun q' => hb (by simp [q'])) q) hf⟩
  self := fun A i s Q E st h => wpAny_pyIter_zip st.1 h

/-! ### zip of three -/
def ItZ3 (K : PySem.W.Frag) (k1 k2 k3 : Kd) (a b c : Addr) : It :=
  ⟨fun i H => ∃ (xs ys zs : List V) (x y u : V), kSq k1 K H a xs ∧ kSq k2 K H b ys ∧ kSq k3 K H c zs ∧ xs[i]? = some x ∧ ys[i]? = some y ∧ zs[i]? = some u,
    fun i H v H' => ∃ T x y u o, v = .ref T ∧ H T = none ∧ o.dict = none ∧ H' = upd H T (.frz o (.tup [x, y, u])) ∧ (∀ xs, kSq k1 K H a xs → xs[i]? = some x) ∧ (∀ ys, kSq k2 K H b ys → ys[i]? = some y) ∧ ∀ zs, kSq k3 K H c zs → zs[i]? = some u,
    fun i H => ∃ xs ys zs : List V, kSq k1 K H a xs ∧ kSq k2 K H b ys ∧ kSq k3 K H c zs ∧ i = min (min xs.length ys.length) zs.length⟩
theorem turn_zip3K {P : Program} {w : World} {K : PySem.W.Frag} {elts : List Expr} {kk : Nat} {tpos : Pos} (k1 k2 k3 : Kd) {a b c0 z TI TO i1 i2 i3 : Addr} (S : ZipSep3 z TI TO i1 i2 i3 [i1, a] [i2, b] [i3, c0]) (n1 : a ≠ i1) (n2 : b ≠ i2) (n3 : c0 ≠ i3) :
    Turn P w K (.Tuple elts kk tpos) (ItZ3 K k1 k2 k3 a b c0) [z, TI, TO, i1, i2, i3] z (fun i h => IsZip h z TI TO .none ∧ IsTupOf3 h TI (.ref i1) (.ref i2) (.ref i3) ∧ (∃ x y u, IsTupOf3 h TO x y u) ∧ kIt k1 h i1 a i ∧ kIt k2 h i2 b i ∧ kIt k3 h i3 c0 i) where
  mem := by simp
  obj := fun i h st c hc => by
    obtain ⟨hz, hTI, ⟨x, y, u, hTO⟩, h1, h2, h3⟩ := st
    have e' : c = z ∨ c = TI ∨ c = TO ∨ c = i1 ∨ c = i2 ∨ c = i3 := by simpa using hc
    rcases e' with q | q | q | q | q | q
    · rw [q]; exact ⟨_, hz, fun v q => nomatch q⟩
    · rw [q]; exact ⟨_, hTI, fun v q => nomatch q⟩
    · rw [q]; exact ⟨_, hTO, fun v q => nomatch q⟩
    · rw [q]; exact kIt_obj h1
    · rw [q]; exact kIt_obj h2
    · rw [q]; exact kIt_obj h3
  keep := fun i h h' st k => by
    obtain ⟨hz, hTI, ⟨x, y, u, hTO⟩, h1, h2, h3⟩ := st
    exact ⟨k z (by simp) _ hz, k TI (by simp) _ hTI, ⟨x, y, u, k TO (by simp) _ hTO⟩, kIt_at h1 fun o q => k i1 (by simp) o q, kIt_at h2 fun o q => k i2 (by simp) o q, kIt_at h3 fun o q => k i3 (by simp) o q⟩
  item := by
    intro X hP hw hK hc i pins s σ H E I hf st hg
    subst hP hw hK
    obtain ⟨hz, hTI, ⟨x0, y0, w0, hTO⟩, h1, h2, h3⟩ := st
    obtain ⟨xs, ys, zs, x, y, v, hqx, hqy, hqz, hx, hy, hv⟩ := hg
    obtain ⟨its, rv, p, hal⟩ := kInv I hqx
    obtain ⟨its2, rv2, p2, hbl⟩ := kInv I hqy
    obtain ⟨its3, rv3, p3, hcl⟩ := kInv I hqz
    obtain ⟨u, hu, ru⟩ := rv.get hx
    obtain ⟨u2, hu2, ru2⟩ := rv2.get hy
    obtain ⟨u3, hu3, ru3⟩ := rv3.get hv
    have hzl : z < s.heap.objs.size := Heap.lt_size hz
    have hlt : i < its.toArray.size := by simpa using (List.getElem?_eq_some_iff.mp hu).1
    have hlt2 : i < its2.toArray.size := by simpa using (List.getElem?_eq_some_iff.mp hu2).1
    have hlt3 : i < its3.toArray.size := by simpa using (List.getElem?_eq_some_iff.mp hu3).1
    have hh : X.A.in1.handled = none := I.ok.hd hc
    refine wpAny_pyNext_zipD3_item S (kDraws k1 hh i1 a n1 its.toArray) (kDraws k2 hh i2 b n2 its2.toArray) (kDraws k3 hh i3 c0 n3 its3.toArray) hz hTI hTO ⟨h1, p⟩ ⟨h2, p2⟩ ⟨h3, p3⟩ hlt hlt2 hlt3 fun x' y' v' h' tk hx' hy' hv' z' TO' h1' h2' h3' hT hsz hk => ?_
    have eu : x' = u := by
      have : its.toArray[i]? = some u := by simpa using hu
      rw [this] at hx'; exact (Option.some.inj hx').symm
    have eu2 : y' = u2 := by
      have : its2.toArray[i]? = some u2 := by simpa using hu2
      rw [this] at hy'; exact (Option.some.inj hy').symm
    have eu3 : v' = u3 := by
      have : its3.toArray[i]? = some u3 := by simpa using hu3
      rw [this] at hv'; exact (Option.some.inj hv').symm
    subst eu eu2 eu3
    refine ⟨_, rfl, wpAny_letOwnedTupleGo_zip (s := { s with heap := h', toks := tk }) z' fun h'' z'' sb => ?_⟩
    have hT2 : h''.get? s.heap.objs.size = some { cls := .type "tuple", data := .seq #[x', y', v'] } := (sb.2 _ (Nat.ne_of_gt hzl)).trans hT
    have new : ObjOk X.prog X.w (upd H s.heap.objs.size (.frz { cls := .type "tuple", data := .seq #[x', y', v'] } (.tup [x, y, v]))) h'' s.heap.objs.size (.frz { cls := .type "tuple", data := .seq #[x', y', v'] } (.tup [x, y, v])) :=
      ⟨hT2, by show 3 ≤ sizeLine; decide, [x', y', v'], .cons ru (.cons ru2 (.cons ru3 .nil)), ⟨_, hT2, rfl, _, rfl⟩⟩
    have I1 : Inv X pins σ (upd H s.heap.objs.size (.frz { cls := .type "tuple", data := .seq #[x', y', v'] } (.tup [x, y, v]))) { s with heap := h'', toks := tk } :=
      I.turnedNew (ch := [z, TI, TO, i1, i2, i3]) (fun c o hb q => (sb.2 c (fun q' => hb (by simp [q']))).trans (hk c o (fun q' => hb (by simp [q'])) (fun q' => hb (by simp [q'])) (fun q' => hb (by simp [q'])) (fun q' => hb (by simp [q'])) (fun q' => hb (by simp [q'])) q)) hf (Nat.le_refl _) new
    refine ⟨.ref s.heap.objs.size, _, I1, rfl, ⟨_, x, y, v, _, rfl, I.hok.fresh (Nat.le_refl _), rfl, rfl, fun l hl => by rw [kInj I hl hqx]; exact hx, fun l hl => by rw [kInj I hl hqy]; exact hy, fun l hl => by rw [kInj I hl hqz]; exact hv⟩, ⟨z'', ?_, ⟨x', y', v', ?_⟩, ?_, ?_, ?_⟩, fun c hcm => ?_⟩
    · exact (sb.2 _ S.TIz).trans (hk _ _ S.TIz S.TITO S.TIi1 S.TIi2 S.TIi3 hTI)
    · exact (sb.2 _ S.TOz).trans TO'
    · exact kIt_at h1'.1 fun o q => (sb.2 _ S.zi1.symm).trans q
    · exact kIt_at h2'.1 fun o q => (sb.2 _ S.zi2.symm).trans q
    · exact kIt_at h3'.1 fun o q => (sb.2 _ S.zi3.symm).trans q
    · have hlt : c < s.heap.objs.size := by
        have e' : c = z ∨ c = TI ∨ c = TO ∨ c = i1 ∨ c = i2 ∨ c = i3 := by simpa using hcm
        rcases e' with q | q | q | q | q | q
        · rw [q]; exact hzl
        · rw [q]; exact Heap.lt_size hTI
        · rw [q]; exact Heap.lt_size hTO
        · rw [q]; obtain ⟨_, e1, _⟩ := kIt_obj h1; exact Heap.lt_size e1
        · rw [q]; obtain ⟨_, e2, _⟩ := kIt_obj h2; exact Heap.lt_size e2
        · rw [q]; obtain ⟨_, e2, _⟩ := kIt_obj h3; exact Heap.lt_size e2
      rw [upd_ne (Nat.ne_of_lt hlt)]
      exact (hf c hcm).1
  done := by
    intro X hP hw hK hc i pins s σ H E I hf st hg
    subst hP hw hK
    obtain ⟨hz, hTI, ⟨x0, y0, w0, hTO⟩, h1, h2, h3⟩ := st
    obtain ⟨xs, ys, zs, hqx, hqy, hqz, hend⟩ := hg
    obtain ⟨its, rv, p, _⟩ := kInv I hqx
    obtain ⟨its2, rv2, p2, _⟩ := kInv I hqy
    obtain ⟨its3, rv3, p3, _⟩ := kInv I hqz
    have l1 : its.toArray.size = xs.length := by rw [List.size_toArray, ← rv.length]
    have l2 : its2.toArray.size = ys.length := by rw [List.size_toArray, ← rv2.length]
    have l3 : its3.toArray.size = zs.length := by rw [List.size_toArray, ← rv3.length]
    have hh : X.A.in1.handled = none := I.ok.hd hc
    exact wpAny_pyNext_zipD3_end S (kDraws k1 hh i1 a n1 its.toArray) (kDraws k2 hh i2 b n2 its2.toArray) (kDraws k3 hh i3 c0 n3 its3.toArray) hz hTI hTO ⟨h1, p⟩ ⟨h2, p2⟩ ⟨h3, p3⟩ (by omega) (by omega) (by omega) (by omega) fun h' tk hk => ⟨rfl, I.turnedL (t' := tk) (ch := [z, TI, TO, i1, i2, i3]) (fun c o hb q =>
      hk c o (fun q' => hb (by simp [q'])) (fun q' => hb (by simp [q'])) (fun q' => hb (by simp [q'])) (fun q' => hb (by simp [q'])) (fun q' => hb (by simp [q'])) q) hf⟩
  self := fun A i s Q E st h => wpAny_pyIter_zip st.1 h
end DL

/-! DL9: what may be walked, at data -/
namespace PySem
open PyProof.Rows Builtin
section
variable {prog : Program} {w : World} {A : Around} {E : Value → Shared → Prop} {s : Shared}
theorem meets_enumerate_newB1 {v : Value} {o : Obj} {H : Heap → Prop} (B : Begins v o H) :
    Meets (Builtin.«enumerate.__new__» ⟨[.type "enumerate", v], []⟩) (fun _ R s => H s.heap ∧
      R (.ok (.ret (.ref (s.heap.push o).objs.size))) { s with heap := (s.heap.push o).push { cls := .type "enumerate", data := .fields #[.none, .bool false, .ref s.heap.objs.size, rawInt 0, .none, .none] } }) :=
  .of_wp fun prog w A R s h => by
    obtain ⟨hp, g, d, tk, os⟩ := s; obtain ⟨h1, h⟩ := h
    have hsub := sub_enumerate
    have q1 : ∀ {A' : Around} {E : Value → Shared → Prop} {Q : Value → Shared → Prop}, Q (.ref hp.objs.size) ⟨hp.push o, g, d, tk, os⟩ → wpAny (model prog w) A' (pyIter v) Q E ⟨hp, g, d, tk, os⟩ :=
      fun q => B.iter prog w _ _ ⟨hp, g, d, tk, os⟩ _ h1 q
    wp_walk using q1
    refine wpAny_stack_any fun st => wpAny_pure ?_
    split
    · rename_i c _ _ _ _ _
      cases (c == Value.type "enumerate")
      · wp_walk using q1
        exact ⟨_, rfl, h⟩
      · wp_walk using q1
        exact ⟨_, rfl, h⟩
    · wp_walk using q1
      exact ⟨_, rfl, h⟩
theorem enum_begins1 {v : Value} {o : Obj} {H : Heap → Prop} {Q : Value → Shared → Prop} (B : Begins v o H) (h1 : H s.heap)
    (h : ∀ h', IsEnum h' (s.heap.objs.size + 1) s.heap.objs.size 0 .none → h'.get? s.heap.objs.size = some o → h'.objs.size = s.heap.objs.size + 2 →
      (∀ b o, s.heap.get? b = some o → h'.get? b = some o) → Q (.ref (s.heap.objs.size + 1)) { s with heap := h' }) :
    wpAny (model prog w) A (call (.type "enumerate") [v]) Q E s := by
  refine callType_new F.called_enumerate (by decide) (F.typeCall_enumerate_1 _) (F.newCall_enumerate_1 _) (fun obj => F.args_object_init_2 obj _) F.entry_enumerate_new
    (meets_enumerate_newB1 B) ⟨h1, ?_⟩
  have hz : (s.heap.push o).objs.size = s.heap.objs.size + 1 := Heap.size_push ..
  show _ ∧ _
  rw [hz]
  have he : IsEnum ((s.heap.push o).push { cls := .type "enumerate", data := .fields #[.none, .bool false, .ref s.heap.objs.size, rawInt 0, .none, .none] }) (s.heap.objs.size + 1) s.heap.objs.size 0 .none := by
    have := Heap.get?_push_size (s.heap.push o) (o := { cls := .type "enumerate", data := .fields #[.none, .bool false, .ref s.heap.objs.size, rawInt 0, .none, .none] }) rfl
    rw [hz] at this; exact this
  refine ⟨⟨_, he, rfl⟩, h _ he (Heap.get?_push_of_some _ (Heap.get?_push_size _ B.free)) (by rw [Heap.size_push, hz]) fun b o x => Heap.get?_push_of_some _ (Heap.get?_push_of_some _ x)⟩
end
end PySem
namespace DL
open PySem PySem.Spec PyProof.Rows L2

section
variable {X : Cx} {e e2 e3 : Expr} {ta : TA} {p pos tpos : Pos} {elts : List Expr} {kk : Nat} {tg : Expr}
def iEn (K : PySem.W.Frag) (ta : TA) : TI := fun σ H R => ta σ H fun vs H1 => ∃ a k xs, vs = [.ref a] ∧ kSq k K H1 a xs ∧ R (ItE K k a) H1
theorem pi_enumK (hg : Gl X "enumerate") (hm : X.mg "enumerate" = none) (ha : PA X [e] ta) (hs : starEach [e] X.env = [(false, eval e X.env)] := by rfl) :
    PI X (.Tuple elts kk tpos) (.Call (.Name "enumerate" p) [e] [] pos) (iEn X.K ta) := by
  refine ⟨fun pins s σ H R I h => ?_⟩
  refine Call_ (ld_blt I hg hm boot_enumerate (PyProof.Rows.callWith_type1 (thn (ha.run pos pins s σ H _ I h) fun us s1 ⟨vs, H1, I1, r1, q1⟩ => ?_) hs rfl))
  obtain ⟨a, k, xs, ex, hq, q⟩ := q1
  subst ex
  cases r1 with
  | cons r rr =>
    cases rr
    cases r
    obtain ⟨its, rv, p', hal⟩ := kInv I1 hq
    refine enum_begins1 (kBegins k a its.toArray) p' fun h' he hit hsz hk => ?_
    refine wpAny_pyIter_enum he ?_
    have I2 : Inv X pins σ H1 { s1 with heap := h' } := I1.kept (t' := s1.toks) hk
    refine ⟨s1.heap.objs.size + 1, [s1.heap.objs.size + 1, s1.heap.objs.size], _, _, H1, rfl, I2, turn_enumK k a (s1.heap.objs.size + 1) s1.heap.objs.size (Nat.succ_ne_self _) (Nat.ne_of_lt hal) (Nat.ne_of_gt (Nat.lt_succ_of_lt hal)), ⟨⟨.none, he⟩, kIt_new hit⟩, fun b hb => ?_, q⟩
    have e' : b = s1.heap.objs.size + 1 ∨ b = s1.heap.objs.size := by simpa using hb
    have hle : s1.heap.objs.size ≤ b := by
      rcases e' with z | z
      · rw [z]; exact Nat.le_succ _
      · rw [z]; exact Nat.le_refl _
    exact I1.fpOk hle (I1.hok.fresh hle)
def iZ2 (K : PySem.W.Frag) (ta : TA) : TI := fun σ H R => ta σ H fun vs H1 => ∃ a b k1 k2 xs ys, vs = [.ref a, .ref b] ∧ kSq k1 K H1 a xs ∧ kSq k2 K H1 b ys ∧ R (ItZ2 K k1 k2 a b) H1
theorem sep2_at (n a b : Nat) (ha : a < n) (hb : b < n) : ZipSep2 (n + 4) (n + 2) (n + 3) n (n + 1) [n, a] [n + 1, b] := by
  constructor <;> first
    | exact List.mem_cons_self
    | (intro h; exact absurd (show (_ : Nat) = _ from h) (by omega))
    | (intro h; rcases List.mem_cons.mp h with h | h <;> first | exact absurd (show (_ : Nat) = _ from h) (by omega) | exact absurd (show (_ : Nat) = _ from List.mem_singleton.mp h) (by omega))
theorem pi_zip2K (hg : Gl X "zip") (hm : X.mg "zip" = none) (ha : PA X [e, e2] ta) (hs : starEach [e, e2] X.env = (false, eval e X.env) :: starEach [e2] X.env := by rfl) (hpl : (backTo pos (starEach [e2] X.env)).any (·.1) = false := by rfl) :
    PI X (.Tuple elts kk tpos) (.Call (.Name "zip" p) [e, e2] [] pos) (iZ2 X.K ta) := by
  refine ⟨fun pins s σ H R I h => ?_⟩
  refine Call_ (ld_blt I hg hm PyProof.Rows.boot_zip (PyProof.Rows.callWith_type1 (thn (ha.run pos pins s σ H _ I h) fun us s1 ⟨vs, H1, I1, r1, q1⟩ => ?_) hs hpl))
  obtain ⟨a, b, k1, k2, xs, ys, ex, hqx, hqy, q⟩ := q1
  subst ex
  cases r1 with
  | cons r rr =>
    cases rr with
    | cons r' rr =>
      cases rr
      cases r
      cases r'
      obtain ⟨its, rv, p1, hal⟩ := kInv I1 hqx
      obtain ⟨its2, rv2, p2, hbl⟩ := kInv I1 hqy
      refine zip_begins2 (kBegins k1 a its.toArray) (kBegins k2 b its2.toArray) p1 p2 fun h' hz hTI hTO h1 h2 hsz hk => wpAny_pyIter_zip hz ?_
      have I2 : Inv X pins σ H1 { s1 with heap := h' } := I1.kept (t' := s1.toks) hk
      refine ⟨s1.heap.objs.size + 4, [s1.heap.objs.size + 4, s1.heap.objs.size + 2, s1.heap.objs.size + 3, s1.heap.objs.size, s1.heap.objs.size + 1], _, _, H1, rfl, I2, turn_zip2K k1 k2 (sep2_at s1.heap.objs.size a b hal hbl) (Nat.ne_of_lt hal) (Nat.ne_of_lt (Nat.lt_succ_of_lt hbl)), ⟨hz, hTI, ⟨_, _, hTO⟩, kIt_new h1, kIt_new h2⟩, fun c hcm => ?_, q⟩
      have e' : c = s1.heap.objs.size + 4 ∨ c = s1.heap.objs.size + 2 ∨ c = s1.heap.objs.size + 3 ∨ c = s1.heap.objs.size ∨ c = s1.heap.objs.size + 1 := by simpa using hcm
      have hle : s1.heap.objs.size ≤ c := by
        rcases e' with z | z | z | z | z <;> rw [z] <;> first | exact Nat.le_add_right _ _ | exact Nat.le_refl _
      exact I1.fpOk hle (I1.hok.fresh hle)
def iZ3 (K : PySem.W.Frag) (ta : TA) : TI := fun σ H R => ta σ H fun vs H1 => ∃ a b c k1 k2 k3 xs ys zs, vs = [.ref a, .ref b, .ref c] ∧ kSq k1 K H1 a xs ∧ kSq k2 K H1 b ys ∧ kSq k3 K H1 c zs ∧ R (ItZ3 K k1 k2 k3 a b c) H1
theorem sep3_at (n a b c : Nat) (ha : a < n) (hb : b < n) (hc : c < n) : ZipSep3 (n + 5) (n + 3) (n + 4) n (n + 1) (n + 2) [n, a] [n + 1, b] [n + 2, c] := by
  constructor <;> first
    | exact List.mem_cons_self
    | (intro h; exact absurd (show (_ : Nat) = _ from h) (by omega))
    | (intro h; rcases List.mem_cons.mp h with h | h <;> first | exact absurd (show (_ : Nat) = _ from h) (by omega) | exact absurd (show (_ : Nat) = _ from List.mem_singleton.mp h) (by omega))
theorem pi_zip3K (hg : Gl X "zip") (hm : X.mg "zip" = none) (ha : PA X [e, e2, e3] ta) (hs : starEach [e, e2, e3] X.env = (false, eval e X.env) :: starEach [e2, e3] X.env := by rfl) (hpl : (backTo pos (starEach [e2, e3] X.env)).any (·.1) = false := by rfl) :
    PI X (.Tuple elts kk tpos) (.Call (.Name "zip" p) [e, e2, e3] [] pos) (iZ3 X.K ta) := by
  refine ⟨fun pins s σ H R I h => ?_⟩
  refine Call_ (ld_blt I hg hm PyProof.Rows.boot_zip (PyProof.Rows.callWith_type1 (thn (ha.run pos pins s σ H _ I h) fun us s1 ⟨vs, H1, I1, r1, q1⟩ => ?_) hs hpl))
  obtain ⟨a, b, c0, k1, k2, k3, xs, ys, zs, ex, hqx, hqy, hqz, q⟩ := q1
  subst ex
  cases r1 with
  | cons r rr =>
    cases rr with
    | cons r' rr =>
      cases rr with
      | cons r'' rr =>
        cases rr
        cases r
        cases r'
        cases r''
        obtain ⟨its, rv, p1, hal⟩ := kInv I1 hqx
        obtain ⟨its2, rv2, p2, hbl⟩ := kInv I1 hqy
        obtain ⟨its3, rv3, p3, hcl⟩ := kInv I1 hqz
        refine zip_begins3 (kBegins k1 a its.toArray) (kBegins k2 b its2.toArray) (kBegins k3 c0 its3.toArray) p1 p2 p3 fun h' hz hTI hTO h1 h2 h3 hsz hk => wpAny_pyIter_zip hz ?_
        have I2 : Inv X pins σ H1 { s1 with heap := h' } := I1.kept (t' := s1.toks) hk
        refine ⟨s1.heap.objs.size + 5, [s1.heap.objs.size + 5, s1.heap.objs.size + 3, s1.heap.objs.size + 4, s1.heap.objs.size, s1.heap.objs.size + 1, s1.heap.objs.size + 2], _, _, H1, rfl, I2, turn_zip3K k1 k2 k3 (sep3_at s1.heap.objs.size a b c0 hal hbl hcl) (Nat.ne_of_lt hal) (Nat.ne_of_lt (Nat.lt_succ_of_lt hbl)) (Nat.ne_of_lt (Nat.lt_succ_of_lt (Nat.lt_succ_of_lt hcl))), ⟨hz, hTI, ⟨_, _, _, hTO⟩, kIt_new h1, kIt_new h2, kIt_new h3⟩, fun c hcm => ?_, q⟩
        have e' : c = s1.heap.objs.size + 5 ∨ c = s1.heap.objs.size + 3 ∨ c = s1.heap.objs.size + 4 ∨ c = s1.heap.objs.size ∨ c = s1.heap.objs.size + 1 ∨ c = s1.heap.objs.size + 2 := by simpa using hcm
        have hle : s1.heap.objs.size ≤ c := by
          rcases e' with z | z | z | z | z | z <;> rw [z] <;> first | exact Nat.le_add_right _ _ | exact Nat.le_refl _
        exact I1.fpOk hle (I1.hok.fresh hle)
/-- a list or a tuple -/
def iSq (K : PySem.W.Frag) (tl : TE) : TI := fun σ H R => tl σ H fun x H1 => ∃ a, x = .ref a ∧ ((∃ xs, SqL K H1 a xs ∧ R (Itl K a) H1) ∨ ∃ xs, SqT K H1 a xs ∧ R (Itt K a) H1)
theorem pi_seq {l : Expr} {tl : TE} (hl : PE X l tl) : PI X tg l (iSq X.K tl) := by
  refine ⟨fun pins s σ H R I h => ?_⟩
  refine thn (hl.run pins s σ H _ I h) fun v s1 ⟨x, H1, I1, r1, q1⟩ => ?_
  obtain ⟨a, e, q1⟩ := q1
  subst e
  cases r1
  rcases q1 with ⟨xs, hq, q⟩ | ⟨xs, hq, q⟩
  · obtain ⟨its, rv, p, hz⟩ := I1.list hq
    refine wpAny_pyIter_list p.isList ?_
    refine ⟨s1.heap.objs.size, [s1.heap.objs.size], _, _, H1, rfl, I1.kept (t' := s1.toks) fun b o e => Heap.get?_push_of_some _ e, turn_list a _, ⟨_, Heap.get?_push_size _ rfl, rfl, rfl⟩, fun b hb => ?_, q⟩
    have e : b = s1.heap.objs.size := by simpa using hb
    subst e
    exact I1.fpOk (Nat.le_refl _) (I1.hok.fresh (Nat.le_refl _))
  · obtain ⟨its, rv, p, hz⟩ := I1.tuple hq
    refine wpAny_pyIter_tuple (show s1.heap.IsTuple a its.toArray from p) ?_
    refine ⟨s1.heap.objs.size, [s1.heap.objs.size], _, _, H1, rfl, I1.kept (t' := s1.toks) fun b o e => Heap.get?_push_of_some _ e, turn_tuple a _, ⟨_, Heap.get?_push_size _ rfl, rfl, rfl⟩, fun b hb => ?_, q⟩
    have e : b = s1.heap.objs.size := by simpa using hb
    subst e
    exact I1.fpOk (Nat.le_refl _) (I1.hok.fresh (Nat.le_refl _))
end

/-! ### at data -/
section
variable {K : PySem.W.Frag} {T : Tab} {F : Hp}
/-- an iterator that changes nothing -/
theorem yj_still {J : It} {ds : List D} (h : ∀ F1 H1, Same F F1 → Same F1 H1 → (∀ i, i < ds.length → J.go i H1 ∧ ∀ x H2, J.yld i H1 x H2 → H2 = H1 ∧ ∃ d, ds[i]? = some d ∧ Rp K T F1 d x) ∧ J.stop ds.length H1) : YJ K T F J ds := fun F1 H1 s1 s2 => by
  obtain ⟨h1, h2⟩ := h F1 H1 s1 s2
  refine ⟨fun i hi => ?_, h2⟩
  obtain ⟨g, y⟩ := h1 i hi
  refine ⟨g, fun x H2 hy => ?_⟩
  obtain ⟨e, d, ed, r⟩ := y x H2 hy
  subst e
  exact ⟨F1, d, Same.refl _, s2, Same.refl _, fun a h => .inl h, ed, r⟩
/-- .. that gives new tuples -/
theorem yj_tups {J : It} {ds : List D} (h : ∀ F1 H1, Same F F1 → Same F1 H1 → (∀ i, i < ds.length → J.go i H1 ∧ ∀ x H2, J.yld i H1 x H2 → ∃ t o vs es, x = .ref t ∧ H1 t = none ∧ o.dict = none ∧ H2 = upd H1 t (.frz o (.tup vs)) ∧ ds[i]? = some (.tup es) ∧ Rps K T F1 es vs) ∧ J.stop ds.length H1) : YJ K T F J ds := fun F1 H1 s1 s2 => by
  obtain ⟨h1, h2⟩ := h F1 H1 s1 s2
  refine ⟨fun i hi => ?_, h2⟩
  obtain ⟨g, y⟩ := h1 i hi
  refine ⟨g, fun x H2 hy => ?_⟩
  obtain ⟨t, o, vs, es, rfl, ht, ho, rfl, ed, r⟩ := y x H2 hy
  have hf : F1 t = none := by
    cases e : F1 t with
    | none => rfl
    | some u => rw [s2 _ _ e] at ht; cases ht
  refine ⟨upd F1 t (.frz o (.tup vs)), .tup es, same_upd hf, ?_, ?_, fun a ha => ?_, ed, rp_tup.mpr ⟨t, vs, rfl, .inl ⟨o, upd_same, ho⟩, Rps.mono (same_upd hf) _ _ r⟩⟩
  · intro b u e
    by_cases hb : b = t
    · subst hb; rw [upd_same] at e ⊢; exact e
    · rw [upd_ne hb] at e ⊢; exact s2 _ _ e
  · intro b u e
    rw [upd_ne (ne_of_none e ht)]; exact e
  · by_cases hb : a = t
    · subst hb; exact .inr ht
    · rw [upd_ne hb] at ha; exact .inl ha
def itemsOf : D → Option (List D)
  | .lst ds => some ds
  | .tup ds => some ds
  | _ => none
theorem itemsOf_rp {d : D} {ds : List D} {v : V} (e : itemsOf d = some ds) (r : Rp K T F d v) : ∃ a k vs, v = .ref a ∧ kSq k K F a vs ∧ Rps K T F ds vs := by
  cases d with
  | lst es => cases e; obtain ⟨a, vs, rfl, q, r⟩ := rp_lst.mp r; exact ⟨a, .l, vs, rfl, q, r⟩
  | tup es => cases e; obtain ⟨a, vs, rfl, q, r⟩ := rp_tupT r; exact ⟨a, .t, vs, rfl, q, r⟩
  | _ => cases e
theorem kSq_mono {k : Kd} {F' : Hp} {a : Addr} {xs : List V} (s : Same F F') (h : kSq k K F a xs) : kSq k K F' a xs := by
  cases k with
  | l => exact sqL_mono s h
  | t => exact sqT_mono s h
end

section
variable {X : Cx} {T : Tab} {W : WX} {e e2 e3 tg : Expr} {es : List Expr} {f : En → O R} {fs : En → O (List R)} {p pos tpos : Pos} {elts : List Expr} {kk : Nat}
/-- over a list or a tuple -/
def vSeqI (ε : En) (r : R) : O (List D) :=
  match frz ε r with
  | some (d, ε') => match itemsOf d with
    | some ds => .ok ds ε'
    | none => .bad
  | none => .bad
def dSeqI (f : En → O R) : En → O (List D) := fun ε => (f ε).bind fun r ε1 => vSeqI ε1 r
theorem di_seq (he : DE X T W e f) : DI X T W tg e (dSeqI f) := by
  refine PI.imp (pi_seq he) fun σ H Q q => ?_
  obtain ⟨F, ε, k, p⟩ := q
  refine tD_use (g := fun r ε1 => vSeqI ε1 r) k Ext.refl p fun v F1 H1 r ε1 k1 x1 _ q1 n1 p1 => ?_
  unfold vSeqI at p1
  cases e1 : frz ε1 r with
  | none => simp only [e1] at p1; exact p1.elim
  | some z =>
    obtain ⟨d, ε2⟩ := z
    simp only [e1] at p1
    cases e2 : itemsOf d with
    | none => simp only [e2] at p1; exact p1.elim
    | some ds =>
      simp only [e2] at p1
      obtain ⟨F2, k2, x2, r2, _⟩ := frz_ok x1 k1 q1 n1 e1
      have go := p1 F2 H1 k2 x2
      cases d with
      | lst es =>
        cases e2
        obtain ⟨a, vs, rfl, hq, hr⟩ := rp_lst.mp r2
        refine ⟨a, rfl, .inl ⟨vs, sqL_mono k2.sub hq, go _ (yj_still fun F1 H1 s1 s2 => ⟨fun i hi => ?_, ?_⟩)⟩⟩
        · have hv : i < vs.length := by rw [hr.length]; exact hi
          have hq' := sqL_mono s2 (sqL_mono s1 hq)
          refine ⟨⟨vs, vs[i], hq', List.getElem?_eq_getElem hv⟩, fun x H2 ⟨e, y⟩ => ⟨e, ?_⟩⟩
          obtain ⟨d, ed, rd⟩ := hr.get' (y vs hq')
          exact ⟨d, ed, Rp.mono s1 _ _ rd⟩
        · exact ⟨vs, sqL_mono s2 (sqL_mono s1 hq), by rw [hr.length]; exact Nat.le_refl _⟩
      | tup es =>
        cases e2
        obtain ⟨a, vs, rfl, hq, hr⟩ := rp_tupT r2
        refine ⟨a, rfl, .inr ⟨vs, sqT_mono k2.sub hq, go _ (yj_still fun F1 H1 s1 s2 => ⟨fun i hi => ?_, ?_⟩)⟩⟩
        · have hv : i < vs.length := by rw [hr.length]; exact hi
          have hq' := sqT_mono s2 (sqT_mono s1 hq)
          refine ⟨⟨vs, vs[i], hq', List.getElem?_eq_getElem hv⟩, fun x H2 ⟨e, y⟩ => ⟨e, ?_⟩⟩
          obtain ⟨d, ed, rd⟩ := hr.get' (y vs hq')
          exact ⟨d, ed, Rp.mono s1 _ _ rd⟩
        · exact ⟨vs, sqT_mono s2 (sqT_mono s1 hq), by rw [hr.length]; exact Nat.le_refl _⟩
      | _ => cases e2
def rangeD (lo : Int) (n : Nat) : List D := (List.range n).map fun i => .int (lo + (i : Nat))
theorem rangeD_length (lo : Int) (n : Nat) : (rangeD lo n).length = n := by unfold rangeD; rw [List.length_map, List.length_range]
theorem yj_range {K : PySem.W.Frag} {F : Hp} {lo : Int} {n : Nat} : YJ K T F (Itr lo n) (rangeD lo n) := yj_still fun F1 H1 _ _ => ⟨fun i hi => by
  rw [rangeD_length] at hi
  refine ⟨hi, fun x H2 ⟨e, y⟩ => ⟨e, .int (lo + i), ?_, rp_int.mpr y⟩⟩
  unfold rangeD
  rw [List.getElem?_map, List.getElem?_range hi]; rfl, by rw [rangeD_length]; exact Nat.le_refl _⟩
def smallI (j : Int) : Bool := Nat.ble j.natAbs 4611686018427387903
theorem smallI_ok {j : Int} (h : smallI j = true) : -(2 ^ 62) ≤ j ∧ j < 2 ^ 62 := by
  have := Nat.le_of_ble_eq_true h
  omega
theorem smallI_of {j : Int} (h : -(2 ^ 61) ≤ j ∧ j < 2 ^ 61) : smallI j = true := Nat.ble_eq_true_of_le (by omega)
def vRng1 (ε : En) (rs : List R) : O (List D) :=
  match ress ε rs with
  | some [.int j] => if smallI j then .ok (rangeD 0 j.toNat) ε else .bad
  | _ => .bad
def vRng2 (ε : En) (rs : List R) : O (List D) :=
  match ress ε rs with
  | some [.int i, .int j] => if smallI i && smallI j then .ok (rangeD i (j - i).toNat) ε else .bad
  | _ => .bad
def dRng1 (fs : En → O (List R)) : En → O (List D) := fun ε => (fs ε).bind fun rs ε1 => vRng1 ε1 rs
def dRng2 (fs : En → O (List R)) : En → O (List D) := fun ε => (fs ε).bind fun rs ε1 => vRng2 ε1 rs
theorem ress_one {K : PySem.W.Frag} {F H : Hp} {σ : L2.St} {ε : En} {rs : List R} {vs : List V} {d : D} (k : Ok K T F H σ ε) (q : RpRs K T F H σ ε rs vs) (e : ress ε rs = some [d]) : ∃ v, vs = [v] ∧ Rp K T H d v := by
  obtain ⟨v, r, rfl, h1, h2⟩ := rps_cons.mp (ress_rps k q e)
  rw [rps_nil.mp h2]
  exact ⟨v, rfl, h1⟩
theorem ress_two {K : PySem.W.Frag} {F H : Hp} {σ : L2.St} {ε : En} {rs : List R} {vs : List V} {d d' : D} (k : Ok K T F H σ ε) (q : RpRs K T F H σ ε rs vs) (e : ress ε rs = some [d, d']) : ∃ v v', vs = [v, v'] ∧ Rp K T H d v ∧ Rp K T H d' v' := by
  obtain ⟨v, r, rfl, h1, h2⟩ := rps_cons.mp (ress_rps k q e)
  obtain ⟨v', r', rfl, h3, h4⟩ := rps_cons.mp h2
  rw [rps_nil.mp h4]
  exact ⟨v, v', rfl, h1, h3⟩
theorem di_range1 (hg : Gl X "range") (hm : X.mg "range" = none) (ha : DA X T W [e] fs) (hs : starEach [e] X.env = [(false, eval e X.env)] := by rfl) : DI X T W tg (.Call (.Name "range" p) [e] [] pos) (dRng1 fs) := by
  refine PI.imp (pi_range1 hg hm ha hs) fun σ H Q q => ?_
  obtain ⟨F, ε, k, p⟩ := q
  refine tDA_use (g := fun rs ε1 => vRng1 ε1 rs) k Ext.refl p fun vs F1 H1 rs ε1 k1 x1 _ q1 n1 nd p1 => ?_
  unfold vRng1 at p1
  split at p1
  · rename_i j e1
    split at p1
    · rename_i hj
      obtain ⟨v, rfl, r⟩ := ress_one k1 q1 e1
      have hj := smallI_ok hj
      exact ⟨j, by rw [rp_int.mp r], hj.1, hj.2, p1 F1 H1 k1 x1 _ yj_range⟩
    · exact p1.elim
  · exact p1.elim
theorem di_range2 (hg : Gl X "range") (hm : X.mg "range" = none) (ha : DA X T W [e, e2] fs) (hs : starEach [e, e2] X.env = [(false, eval e X.env), (false, eval e2 X.env)] := by rfl) (hs2 : starEach [e2] X.env = [(false, eval e2 X.env)] := by rfl) : DI X T W tg (.Call (.Name "range" p) [e, e2] [] pos) (dRng2 fs) := by
  refine PI.imp (pi_range2 hg hm ha hs hs2) fun σ H Q q => ?_
  obtain ⟨F, ε, k, p⟩ := q
  refine tDA_use (g := fun rs ε1 => vRng2 ε1 rs) k Ext.refl p fun vs F1 H1 rs ε1 k1 x1 _ q1 n1 nd p1 => ?_
  unfold vRng2 at p1
  split at p1
  · rename_i i j e1
    split at p1
    · rename_i hj
      obtain ⟨v, v', rfl, r, r'⟩ := ress_two k1 q1 e1
      rw [Bool.and_eq_true] at hj
      have hj := And.intro (smallI_ok hj.1) (smallI_ok hj.2)
      exact ⟨i, j, by rw [rp_int.mp r, rp_int.mp r'], ⟨hj.1.1, hj.1.2, hj.2.1, hj.2.2⟩, p1 F1 H1 k1 x1 _ yj_range⟩
    · exact p1.elim
  · exact p1.elim
/-- enumerate, zip -/
def enumD (ds : List D) : List D := (List.range ds.length).zipWith (fun i d => .tup [.int (i : Nat), d]) ds
def zip2D (xs ys : List D) : List D := List.zipWith (fun x y => .tup [x, y]) xs ys
def zip3D (xs ys zs : List D) : List D := List.zipWith (fun x yz => .tup (x :: yz)) xs (List.zipWith (fun y z => [y, z]) ys zs)
def vEnum (ε : En) (rs : List R) : O (List D) :=
  match frzs ε rs with
  | some ([d], ε') => match itemsOf d with
    | some ds => .ok (enumD ds) ε'
    | none => .bad
  | _ => .bad
def vZip2 (ε : En) (rs : List R) : O (List D) :=
  match frzs ε rs with
  | some ([d1, d2], ε') => match itemsOf d1, itemsOf d2 with
    | some xs, some ys => .ok (zip2D xs ys) ε'
    | _, _ => .bad
  | _ => .bad
def vZip3 (ε : En) (rs : List R) : O (List D) :=
  match frzs ε rs with
  | some ([d1, d2, d3], ε') => match itemsOf d1, itemsOf d2, itemsOf d3 with
    | some xs, some ys, some zs => .ok (zip3D xs ys zs) ε'
    | _, _, _ => .bad
  | _ => .bad
def dEnum (fs : En → O (List R)) : En → O (List D) := fun ε => (fs ε).bind fun rs ε1 => vEnum ε1 rs
def dZip2 (fs : En → O (List R)) : En → O (List D) := fun ε => (fs ε).bind fun rs ε1 => vZip2 ε1 rs
def dZip3 (fs : En → O (List R)) : En → O (List D) := fun ε => (fs ε).bind fun rs ε1 => vZip3 ε1 rs
theorem di_enum (hg : Gl X "enumerate") (hm : X.mg "enumerate" = none) (ha : DA X T W [e] fs) (hs : starEach [e] X.env = [(false, eval e X.env)] := by rfl) : DI X T W (.Tuple elts kk tpos) (.Call (.Name "enumerate" p) [e] [] pos) (dEnum fs) := by
  refine PI.imp (pi_enumK hg hm ha hs) fun σ H Q q => ?_
  obtain ⟨F, ε, k, p⟩ := q
  refine tDA_use (g := fun rs ε1 => vEnum ε1 rs) k Ext.refl p fun vs F1 H1 rs ε1 k1 x1 _ q1 n1 nd p1 => ?_
  unfold vEnum at p1
  split at p1
  · rename_i d ε' e1
    cases e2 : itemsOf d with
    | none => rw [e2] at p1; exact p1.elim
    | some ds =>
      rw [e2] at p1
      obtain ⟨F2, k2, x2, r2, _⟩ := frzs_ok x1 k1 q1 n1 nd e1
      obtain ⟨v, w, rfl, rd, rn⟩ := rps_cons.mp r2
      rw [rps_nil.mp rn]
      obtain ⟨a, kd, us, rfl, hq, hr⟩ := itemsOf_rp e2 rd
      refine ⟨a, kd, us, rfl, kSq_mono k2.sub hq, p1 F2 H1 k2 x2 _ (yj_tups fun F3 H3 s1 s2 => ⟨fun i hi => ?_, ?_⟩)⟩
      · have hi' : i < ds.length := by simpa [enumD] using hi
        have hv : i < us.length := by rw [hr.length]; exact hi'
        have hq' := kSq_mono s2 (kSq_mono s1 hq)
        refine ⟨⟨us, us[i], hq', List.getElem?_eq_getElem hv⟩, fun x H2 ⟨t, y, o, e, ht, ho, eH, h⟩ => ?_⟩
        obtain ⟨d', ed, rd'⟩ := hr.get' (h us hq')
        refine ⟨t, o, _, [.int (i : Nat), d'], e, ht, ho, eH, ?_, rps_cons.mpr ⟨_, _, rfl, rp_int.mpr rfl, Rps.one (Rp.mono s1 _ _ rd')⟩⟩
        unfold enumD
        rw [List.getElem?_zipWith, List.getElem?_range hi', ed]
      · refine ⟨us, kSq_mono s2 (kSq_mono s1 hq), ?_⟩
        rw [hr.length]; simp [enumD]
  · exact p1.elim
theorem di_zip2 (hg : Gl X "zip") (hm : X.mg "zip" = none) (ha : DA X T W [e, e2] fs) (hs : starEach [e, e2] X.env = (false, eval e X.env) :: starEach [e2] X.env := by rfl) (hpl : (backTo pos (starEach [e2] X.env)).any (·.1) = false := by rfl) :
    DI X T W (.Tuple elts kk tpos) (.Call (.Name "zip" p) [e, e2] [] pos) (dZip2 fs) := by
  refine PI.imp (pi_zip2K hg hm ha hs hpl) fun σ H Q q => ?_
  obtain ⟨F, ε, k, p⟩ := q
  refine tDA_use (g := fun rs ε1 => vZip2 ε1 rs) k Ext.refl p fun vs F1 H1 rs ε1 k1 x1 _ q1 n1 nd p1 => ?_
  unfold vZip2 at p1
  split at p1
  · rename_i d d2 ε' e1
    cases e2 : itemsOf d with
    | none => simp only [e2] at p1; exact p1.elim
    | some ds =>
      cases e3 : itemsOf d2 with
      | none => simp only [e2, e3] at p1; exact p1.elim
      | some ds2 =>
        simp only [e2, e3] at p1
        obtain ⟨F2, k2, x2, r2, _⟩ := frzs_ok x1 k1 q1 n1 nd e1
        obtain ⟨v, w, rfl, rd, rn⟩ := rps_cons.mp r2
        obtain ⟨v2, w2, rfl, rd2, rn2⟩ := rps_cons.mp rn
        rw [rps_nil.mp rn2]
        obtain ⟨a, kd, us, rfl, hq, hr⟩ := itemsOf_rp e2 rd
        obtain ⟨b, kd2, us2, rfl, hq2, hr2⟩ := itemsOf_rp e3 rd2
        refine ⟨a, b, kd, kd2, us, us2, rfl, kSq_mono k2.sub hq, kSq_mono k2.sub hq2, p1 F2 H1 k2 x2 _ (yj_tups fun F3 H3 s1 s2 => ⟨fun i hi => ?_, ?_⟩)⟩
        · have hi' : i < ds.length ∧ i < ds2.length := by
            have h := hi
            simp [zip2D] at h
            omega
          have hv : i < us.length := by rw [hr.length]; exact hi'.1
          have hv2 : i < us2.length := by rw [hr2.length]; exact hi'.2
          have hq' := kSq_mono s2 (kSq_mono s1 hq)
          have hq2' := kSq_mono s2 (kSq_mono s1 hq2)
          refine ⟨⟨us, us2, us[i], us2[i], hq', hq2', List.getElem?_eq_getElem hv, List.getElem?_eq_getElem hv2⟩, fun x H2 ⟨t, y, y2, o, e, ht, ho, eH, h, h2⟩ => ?_⟩
          obtain ⟨d', ed, rd'⟩ := hr.get' (h us hq')
          obtain ⟨d2', ed2, rd2'⟩ := hr2.get' (h2 us2 hq2')
          refine ⟨t, o, _, [d', d2'], e, ht, ho, eH, ?_, rps_cons.mpr ⟨_, _, rfl, Rp.mono s1 _ _ rd', Rps.one (Rp.mono s1 _ _ rd2')⟩⟩
          unfold zip2D
          rw [List.getElem?_zipWith, ed, ed2]
        · refine ⟨us, us2, kSq_mono s2 (kSq_mono s1 hq), kSq_mono s2 (kSq_mono s1 hq2), ?_⟩
          rw [hr.length, hr2.length]; simp [zip2D]
  · exact p1.elim
theorem di_zip3 (hg : Gl X "zip") (hm : X.mg "zip" = none) (ha : DA X T W [e, e2, e3] fs) (hs : starEach [e, e2, e3] X.env = (false, eval e X.env) :: starEach [e2, e3] X.env := by rfl) (hpl : (backTo pos (starEach [e2, e3] X.env)).any (·.1) = false := by rfl) :
    DI X T W (.Tuple elts kk tpos) (.Call (.Name "zip" p) [e, e2, e3] [] pos) (dZip3 fs) := by
  refine PI.imp (pi_zip3K hg hm ha hs hpl) fun σ H Q q => ?_
  obtain ⟨F, ε, k, p⟩ := q
  refine tDA_use (g := fun rs ε1 => vZip3 ε1 rs) k Ext.refl p fun vs F1 H1 rs ε1 k1 x1 _ q1 n1 nd p1 => ?_
  unfold vZip3 at p1
  split at p1
  · rename_i d d2 d3 ε' e1
    cases e2 : itemsOf d with
    | none => simp only [e2] at p1; exact p1.elim
    | some ds =>
      cases e3 : itemsOf d2 with
      | none => simp only [e2, e3] at p1; exact p1.elim
      | some ds2 =>
        cases e4 : itemsOf d3 with
        | none => simp only [e2, e3, e4] at p1; exact p1.elim
        | some ds3 =>
          simp only [e2, e3, e4] at p1
          obtain ⟨F2, k2, x2, r2, _⟩ := frzs_ok x1 k1 q1 n1 nd e1
          obtain ⟨v, w, rfl, rd, rn⟩ := rps_cons.mp r2
          obtain ⟨v2, w2, rfl, rd2, rn2⟩ := rps_cons.mp rn
          obtain ⟨v3, w3, rfl, rd3, rn3⟩ := rps_cons.mp rn2
          rw [rps_nil.mp rn3]
          obtain ⟨a, kd, us, rfl, hq, hr⟩ := itemsOf_rp e2 rd
          obtain ⟨b, kd2, us2, rfl, hq2, hr2⟩ := itemsOf_rp e3 rd2
          obtain ⟨c, kd3, us3, rfl, hq3, hr3⟩ := itemsOf_rp e4 rd3
          refine ⟨a, b, c, kd, kd2, kd3, us, us2, us3, rfl, kSq_mono k2.sub hq, kSq_mono k2.sub hq2, kSq_mono k2.sub hq3, p1 F2 H1 k2 x2 _ (yj_tups fun F3 H3 s1 s2 => ⟨fun i hi => ?_, ?_⟩)⟩
          · have hi' : i < ds.length ∧ i < ds2.length ∧ i < ds3.length := by
              have h := hi
              simp [zip3D] at h
              omega
            have hv : i < us.length := by rw [hr.length]; exact hi'.1
            have hv2 : i < us2.length := by rw [hr2.length]; exact hi'.2.1
            have hv3 : i < us3.length := by rw [hr3.length]; exact hi'.2.2
            have hq' := kSq_mono s2 (kSq_mono s1 hq)
            have hq2' := kSq_mono s2 (kSq_mono s1 hq2)
            have hq3' := kSq_mono s2 (kSq_mono s1 hq3)
            refine ⟨⟨us, us2, us3, us[i], us2[i], us3[i], hq', hq2', hq3', List.getElem?_eq_getElem hv, List.getElem?_eq_getElem hv2, List.getElem?_eq_getElem hv3⟩, fun x H2 ⟨t, y, y2, y3, o, e, ht, ho, eH, h, h2, h3⟩ => ?_⟩
            obtain ⟨d', ed, rd'⟩ := hr.get' (h us hq')
            obtain ⟨d2', ed2, rd2'⟩ := hr2.get' (h2 us2 hq2')
            obtain ⟨d3', ed3, rd3'⟩ := hr3.get' (h3 us3 hq3')
            refine ⟨t, o, _, [d', d2', d3'], e, ht, ho, eH, ?_, rps_cons.mpr ⟨_, _, rfl, Rp.mono s1 _ _ rd', rps_cons.mpr ⟨_, _, rfl, Rp.mono s1 _ _ rd2', Rps.one (Rp.mono s1 _ _ rd3')⟩⟩⟩
            unfold zip3D
            rw [List.getElem?_zipWith, List.getElem?_zipWith, ed, ed2, ed3]
          · refine ⟨us, us2, us3, kSq_mono s2 (kSq_mono s1 hq), kSq_mono s2 (kSq_mono s1 hq2), kSq_mono s2 (kSq_mono s1 hq3), ?_⟩
            rw [hr.length, hr2.length, hr3.length]; simp [zip3D]
  · exact p1.elim
end
end DL

/-! DL10: operators at data -/
namespace DL
open PySem PySem.Spec PyProof.Rows L2

/-! ### data as the library's data -/
mutual
def toP : D → PyData
  | .non => .none | .bl b => .bool b | .int i => .int i | .str x => .str x
  | .tup ds => .tuple (toPs ds) | .lst ds => .list (toPs ds)
  | .dK _ _ => .none | .dT _ _ => .none | .dF _ _ => .none | .fl _ => .none | .ins _ _ _ => .none | .fn _ => .none | .ty _ => .none
def toPs : List D → List PyData
  | [] => []
  | d :: ds => toP d :: toPs ds
end
mutual
def sok : D → Bool
  | .non => true | .bl _ => true | .int _ => true | .str x => PyData.canLay0 (.str x)
  | .tup ds => soks ds | .lst ds => soks ds
  | .dK _ _ => false | .dT _ _ => false | .dF _ _ => false | .fl _ => false | .ins _ _ _ => false | .fn _ => false | .ty _ => false
def soks : List D → Bool
  | [] => true
  | d :: ds => sok d && soks ds
end
mutual
def dep : D → Nat
  | .tup ds => deps ds + 1 | .lst ds => deps ds + 1
  | _ => 0
def deps : List D → Nat
  | [] => 0
  | d :: ds => max (dep d) (deps ds)
end
mutual
def deq : D → D → Bool
  | .non, .non => true
  | .bl a, .bl b => a == b
  | .bl a, .int j => (if a then 1 else 0) == j
  | .int i, .bl b => i == (if b then 1 else 0)
  | .int i, .int j => i == j
  | .str x, .str y => x == y
  | .lst xs, .lst ys => deqs xs ys
  | .tup xs, .tup ys => deqs xs ys
  | _, _ => false
def deqs : List D → List D → Bool
  | [], [] => true
  | x :: xs, y :: ys => deq x y && deqs xs ys
  | _, _ => false
end
mutual
theorem rp_dp {K : PySem.W.Frag} {T : Tab} {H : Hp} : ∀ (d : D) (v : V), sok d = true → Rp K T H d v → Dp K H v (toP d)
  | .non, v, _, r => by rw [rp_non.mp r]; unfold toP; exact .non
  | .bl b, v, _, r => by rw [rp_bl.mp r]; unfold toP; exact .bl b
  | .int b, v, _, r => by rw [rp_int.mp r]; unfold toP; exact .int b
  | .str b, v, _, r => by rw [rp_str.mp r]; unfold toP; exact .str b
  | .tup ds, v, h, r => by
    obtain ⟨a, vs, rfl, q, r⟩ := rp_tupT r
    unfold toP
    unfold sok at h
    exact .tup q (rps_dp ds vs h r)
  | .lst ds, v, h, r => by
    obtain ⟨a, vs, rfl, q, r⟩ := rp_lst.mp r
    unfold toP
    unfold sok at h
    exact .lst q (rps_dp ds vs h r)
  | .dK _ _, v, h, r => by unfold sok at h; cases h
  | .dT _ _, v, h, r => by unfold sok at h; cases h
  | .dF _ _, v, h, r => by unfold sok at h; cases h
  | .fl _, v, h, r => by unfold sok at h; cases h
  | .ins _ _ _, v, h, r => by unfold sok at h; cases h
  | .fn _, v, h, r => by unfold sok at h; cases h
  | .ty _, v, h, r => by unfold sok at h; cases h
theorem rps_dp {K : PySem.W.Frag} {T : Tab} {H : Hp} : ∀ (ds : List D) (vs : List V), soks ds = true → Rps K T H ds vs → DpAll K H vs (toPs ds)
  | [], vs, _, r => by rw [rps_nil.mp r]; unfold toPs; exact .nil
  | d :: ds, vs, h, r => by
    obtain ⟨v, w, rfl, r1, r2⟩ := rps_cons.mp r
    unfold soks at h
    rw [Bool.and_eq_true] at h
    unfold toPs
    exact .cons (rp_dp d v h.1 r1) (rps_dp ds w h.2 r2)
end
mutual
theorem toP_dep : ∀ d : D, sok d = true → (toP d).depth = dep d
  | .non, _ => by unfold toP dep; simp only [PyData.depth]
  | .bl b, _ => by unfold toP dep; simp only [PyData.depth]
  | .int b, _ => by unfold toP dep; simp only [PyData.depth]
  | .str b, _ => by unfold toP dep; simp only [PyData.depth]
  | .tup ds, h => by unfold toP dep; unfold sok at h; simp only [PyData.depth]; rw [toPs_dep ds h]
  | .lst ds, h => by unfold toP dep; unfold sok at h; simp only [PyData.depth]; rw [toPs_dep ds h]
  | .dK _ _, h => by unfold sok at h; cases h
  | .dT _ _, h => by unfold sok at h; cases h
  | .dF _ _, h => by unfold sok at h; cases h
  | .fl _, h => by unfold sok at h; cases h
  | .ins _ _ _, h => by unfold sok at h; cases h
  | .fn _, h => by unfold sok at h; cases h
  | .ty _, h => by unfold sok at h; cases h
theorem toPs_dep : ∀ ds : List D, soks ds = true → PyData.depthAll (toPs ds) = deps ds
  | [], _ => by unfold toPs deps; simp only [PyData.depthAll]
  | d :: ds, h => by
    unfold soks at h
    rw [Bool.and_eq_true] at h
    unfold toPs deps
    simp only [PyData.depthAll]
    rw [toP_dep d h.1, toPs_dep ds h.2]
end
mutual
theorem toP_lay : ∀ d : D, sok d = true → (toP d).canLay0 = true
  | .non, _ => by unfold toP; simp only [PyData.canLay0]
  | .bl b, _ => by unfold toP; simp only [PyData.canLay0]
  | .int b, _ => by unfold toP; simp only [PyData.canLay0]
  | .str b, h => by unfold sok at h; unfold toP; exact h
  | .tup ds, h => by unfold sok at h; unfold toP; simp only [PyData.canLay0]; exact toPs_lay ds h
  | .lst ds, h => by unfold sok at h; unfold toP; simp only [PyData.canLay0]; exact toPs_lay ds h
  | .dK _ _, h => by unfold sok at h; cases h
  | .dT _ _, h => by unfold sok at h; cases h
  | .dF _ _, h => by unfold sok at h; cases h
  | .fl _, h => by unfold sok at h; cases h
  | .ins _ _ _, h => by unfold sok at h; cases h
  | .fn _, h => by unfold sok at h; cases h
  | .ty _, h => by unfold sok at h; cases h
theorem toPs_lay : ∀ ds : List D, soks ds = true → PyData.canLayAll0 (toPs ds) = true
  | [], _ => by unfold toPs; simp only [PyData.canLayAll0]
  | d :: ds, h => by
    unfold soks at h
    rw [Bool.and_eq_true] at h
    unfold toPs
    simp only [PyData.canLayAll0]
    rw [toP_lay d h.1, toPs_lay ds h.2]; rfl
end
theorem toP_shaped {d : D} (h : sok d = true) (hd : dep d ≤ 20) : SeqAt.shaped (toP d) = true := by
  show ((toP d).canLay0 && decide ((toP d).depth ≤ 64)) = true
  rw [toP_lay d h, toP_dep d h, Bool.true_and, decide_eq_true_eq]
  omega
mutual
theorem deq_eqv : ∀ d e : D, sok d = true → sok e = true → PyData.eqv (toP d) (toP e) = deq d e
  | .non, e, _, he => by cases e <;> first | (unfold sok at he; cases he; done) | (unfold toP; simp only [PyData.eqv, deq])
  | .bl _, e, _, he => by cases e <;> first | (unfold sok at he; cases he; done) | (unfold toP; simp only [PyData.eqv, deq])
  | .int _, e, _, he => by cases e <;> first | (unfold sok at he; cases he; done) | (unfold toP; simp only [PyData.eqv, deq])
  | .str _, e, _, he => by cases e <;> first | (unfold sok at he; cases he; done) | (unfold toP; simp only [PyData.eqv, deq])
  | .tup xs, e, h, he => by
    cases e <;> first | (unfold sok at he; cases he; done) | skip
    case tup ys => unfold sok at h he; unfold toP; simp only [PyData.eqv, deq]; exact deqs_eqv xs ys h he
    all_goals (unfold toP; simp only [PyData.eqv, deq])
  | .lst xs, e, h, he => by
    cases e <;> first | (unfold sok at he; cases he; done) | skip
    case lst ys => unfold sok at h he; unfold toP; simp only [PyData.eqv, deq]; exact deqs_eqv xs ys h he
    all_goals (unfold toP; simp only [PyData.eqv, deq])
  | .dK _ _, e, h, he => by unfold sok at h; cases h
  | .dT _ _, e, h, he => by unfold sok at h; cases h
  | .dF _ _, e, h, he => by unfold sok at h; cases h
  | .fl _, e, h, he => by unfold sok at h; cases h
  | .ins _ _ _, e, h, he => by unfold sok at h; cases h
  | .fn _, e, h, he => by unfold sok at h; cases h
  | .ty _, e, h, he => by unfold sok at h; cases h
theorem deqs_eqv : ∀ ds es : List D, soks ds = true → soks es = true → PyData.eqvAll (toPs ds) (toPs es) = deqs ds es
  | [], [], _, _ => by unfold toPs; simp only [PyData.eqvAll, deqs]
  | [], e :: es, _, _ => by unfold toPs; simp only [PyData.eqvAll, deqs]
  | d :: ds, [], _, _ => by unfold toPs; simp only [PyData.eqvAll, deqs]
  | d :: ds, e :: es, h, h' => by
    unfold soks at h h'
    rw [Bool.and_eq_true] at h h'
    unfold toPs
    simp only [PyData.eqvAll, deqs]
    rw [deq_eqv d e h.1 h'.1, deqs_eqv ds es h.2 h'.2]
end
def okq (d : D) : Bool := sok d && decide (dep d ≤ 20)
def gEq (d1 d2 : D) : Option D := if okq d1 && okq d2 then some (.bl (deq d1 d2)) else none
def gNe (d1 d2 : D) : Option D := if okq d1 && okq d2 then some (.bl (!deq d1 d2)) else none
theorem op2_eq {K : PySem.W.Frag} {T : Tab} : Op2 K T gEq (rEqD K) := fun d1 d2 d x y H Q e r1 r2 q => by
  unfold gEq at e
  split at e
  · rename_i h
    cases e
    rw [Bool.and_eq_true, okq, okq, Bool.and_eq_true, Bool.and_eq_true, decide_eq_true_eq, decide_eq_true_eq] at h
    refine ⟨rfl, _, _, rp_dp d1 x h.1.1 r1, rp_dp d2 y h.2.1 r2, toP_shaped h.1.1 h.1.2, toP_shaped h.2.1 h.2.2, ?_⟩
    rw [deq_eqv d1 d2 h.1.1 h.2.1]
    exact q _ (rp_bl.mpr rfl)
  · cases e
theorem op2_ne {K : PySem.W.Frag} {T : Tab} : Op2 K T gNe (rNeD K) := fun d1 d2 d x y H Q e r1 r2 q => by
  unfold gNe at e
  split at e
  · rename_i h
    cases e
    rw [Bool.and_eq_true, okq, okq, Bool.and_eq_true, Bool.and_eq_true, decide_eq_true_eq, decide_eq_true_eq] at h
    refine ⟨rfl, _, _, rp_dp d1 x h.1.1 r1, rp_dp d2 y h.2.1 r2, toP_shaped h.1.1 h.1.2, toP_shaped h.2.1 h.2.2, ?_⟩
    rw [deq_eqv d1 d2 h.1.1 h.2.1]
    exact q _ (rp_bl.mpr rfl)
  · cases e

/-! ### ints -/
def gII (C : Int → Int → Bool) (f : Int → Int → D) : D → D → Option D
  | .int i, .int j => if C i j then some (f i j) else none
  | _, _ => none
theorem op2_ii {K : PySem.W.Frag} {T : Tab} {C : Int → Int → Bool} {C' : Int → Int → Prop} {f : Int → Int → D} {f' : Int → Int → V} (hC : ∀ i j, C i j = true → C' i j) (hf : ∀ i j H, Rp K T H (f i j) (f' i j)) (hl : ∀ i j, flat (f i j) = true) : Op2 K T (gII C f) (rI C' f') := fun d1 d2 d x y H Q e r1 r2 q => by
  cases d1 <;> first | (cases e; done) | skip
  cases d2 <;> first | (cases e; done) | skip
  rename_i i j
  have e : (if C i j then some (f i j) else none) = some d := e
  by_cases h : C i j = true
  · rw [if_pos h] at e
    cases e
    exact ⟨hl i j, i, j, rp_int.mp r1, rp_int.mp r2, hC i j h, q _ (hf i j H)⟩
  · rw [if_neg h] at e; cases e
theorem rI0_of {C : Int → Int → Prop} {g : Int → Int → V} {x y : V} {H : Hp} {Q : VK} (h : rI C g x y H Q) : rI0 g x y H Q := let ⟨i, j, a, b, _, q⟩ := h; ⟨i, j, a, b, q⟩
theorem OpR.of0 {X : Cx} {f : Value → Value → Sem Value} {g : Int → Int → V} (h : OpR X f (rI0 g)) : OpR X f (rI (fun _ _ => True) g) := fun pins s σ H x y v u Q I rx ry q => h pins s σ H x y v u Q I rx ry (rI0_of q)
abbrev tt2 : Int → Int → Bool := fun _ _ => true
def gSub := gII tt2 fun i j => .int (i - j)
def cdiv (i j : Int) : Bool := decide (j ≠ 0) && decide (j.natAbs < 1073741824)
def gFdiv := gII cdiv fun i j => .int (i.fdiv j)
def cmod (i j : Int) : Bool := decide (j ≠ 0)
def gMod := gII cmod fun i j => .int (i.fmod j)
def cpow (i j : Int) : Bool := decide (0 ≤ j) && decide (j ≤ 1000000) && decide (i.natAbs < 2 ^ 64)
def gPow := gII cpow fun i j => .int (i ^ j.toNat)
def gLt := gII tt2 fun i j => .bl (decide (i < j))
def gLe := gII tt2 fun i j => .bl (decide (i ≤ j))
def gGt := gII tt2 fun i j => .bl (decide (j < i))
def gGe := gII tt2 fun i j => .bl (decide (j ≤ i))

section
variable {X : Cx} {T : Tab} {W : WX} {e a b c : Expr} {es : List Expr} {f fa fb fc : En → O R} {fs : En → O (List R)} {pos : Pos}
theorem de_sub (ha : DE X T W a fa) (hb : DE X T W b fb) : DE X T W (.BinOp a .Sub b pos) (dOp2 gSub fa fb) :=
  de_op (OpR.of0 op_sub) (op2_ii (fun _ _ _ => trivial) (fun _ _ _ => rp_int.mpr rfl) (fun _ _ => rfl)) ha hb
theorem de_fdiv (ha : DE X T W a fa) (hb : DE X T W b fb) : DE X T W (.BinOp a .FloorDiv b pos) (dOp2 gFdiv fa fb) :=
  de_op op_fdivN (op2_ii (fun i j h => by
    unfold cdiv at h
    rw [Bool.and_eq_true, decide_eq_true_eq, decide_eq_true_eq] at h
    exact h) (fun _ _ _ => rp_int.mpr rfl) (fun _ _ => rfl)) ha hb
theorem de_mod (ha : DE X T W a fa) (hb : DE X T W b fb) : DE X T W (.BinOp a .Mod b pos) (dOp2 gMod fa fb) :=
  de_op op_modN (op2_ii (fun i j h => by
    unfold cmod at h
    exact of_decide_eq_true h) (fun _ _ _ => rp_int.mpr rfl) (fun _ _ => rfl)) ha hb
theorem de_pow (ha : DE X T W a fa) (hb : DE X T W b fb) : DE X T W (.BinOp a .Pow b pos) (dOp2 gPow fa fb) :=
  de_op op_pow (op2_ii (fun i j h => by
    unfold cpow at h
    rw [Bool.and_eq_true, Bool.and_eq_true, decide_eq_true_eq, decide_eq_true_eq, decide_eq_true_eq] at h
    exact ⟨h.1.1, h.1.2, h.2⟩) (fun _ _ _ => rp_int.mpr rfl) (fun _ _ => rfl)) ha hb
theorem op2_lt {K : PySem.W.Frag} : Op2 K T gLt (rI (fun _ _ => True) fun i j => .bl (decide (i < j))) := op2_ii (fun _ _ _ => trivial) (fun _ _ _ => rp_bl.mpr rfl) (fun _ _ => rfl)
theorem op2_le {K : PySem.W.Frag} : Op2 K T gLe (rI (fun _ _ => True) fun i j => .bl (decide (i ≤ j))) := op2_ii (fun _ _ _ => trivial) (fun _ _ _ => rp_bl.mpr rfl) (fun _ _ => rfl)
theorem op2_gt {K : PySem.W.Frag} : Op2 K T gGt (rI (fun _ _ => True) fun i j => .bl (decide (j < i))) := op2_ii (fun _ _ _ => trivial) (fun _ _ _ => rp_bl.mpr rfl) (fun _ _ => rfl)
theorem op2_ge {K : PySem.W.Frag} : Op2 K T gGe (rI (fun _ _ => True) fun i j => .bl (decide (j ≤ i))) := op2_ii (fun _ _ _ => trivial) (fun _ _ _ => rp_bl.mpr rfl) (fun _ _ => rfl)
theorem de_lt (ha : DE X T W a fa) (hb : DE X T W b fb) : DE X T W (.Compare a [.Lt] [b] pos) (dOp2 gLt fa fb) := de_cmp (OpR.of0 op_lt) op2_lt ha hb (nomark _)
theorem de_le (ha : DE X T W a fa) (hb : DE X T W b fb) : DE X T W (.Compare a [.LtE] [b] pos) (dOp2 gLe fa fb) := de_cmp (OpR.of0 op_le) op2_le ha hb (nomark _)
theorem de_gt (ha : DE X T W a fa) (hb : DE X T W b fb) : DE X T W (.Compare a [.Gt] [b] pos) (dOp2 gGt fa fb) := de_cmp (OpR.of0 op_gt) op2_gt ha hb (nomark _)
theorem de_ge (ha : DE X T W a fa) (hb : DE X T W b fb) : DE X T W (.Compare a [.GtE] [b] pos) (dOp2 gGe fa fb) := de_cmp (OpR.of0 op_ge) op2_ge ha hb (nomark _)
theorem dt_lt (ha : DE X T W a fa) (hb : DE X T W b fb) : DT X T W (.Compare a [.Lt] [b] pos) (dTst (dOp2 gLt fa fb)) := dt_cmp (OpR.of0 op_lt) op2_lt ha hb (nomark _)
theorem dt_le (ha : DE X T W a fa) (hb : DE X T W b fb) : DT X T W (.Compare a [.LtE] [b] pos) (dTst (dOp2 gLe fa fb)) := dt_cmp (OpR.of0 op_le) op2_le ha hb (nomark _)
theorem dt_gt (ha : DE X T W a fa) (hb : DE X T W b fb) : DT X T W (.Compare a [.Gt] [b] pos) (dTst (dOp2 gGt fa fb)) := dt_cmp (OpR.of0 op_gt) op2_gt ha hb (nomark _)
theorem dt_ge (ha : DE X T W a fa) (hb : DE X T W b fb) : DT X T W (.Compare a [.GtE] [b] pos) (dTst (dOp2 gGe fa fb)) := dt_cmp (OpR.of0 op_ge) op2_ge ha hb (nomark _)
theorem de_eq (hu : X.A.units + 64 < cLine) (ha : DE X T W a fa) (hb : DE X T W b fb) : DE X T W (.Compare a [.Eq] [b] pos) (dOp2 gEq fa fb) := de_cmp (op_eqD hu) op2_eq ha hb (nomark _)
theorem de_ne (hu : X.A.units + 64 < cLine) (ha : DE X T W a fa) (hb : DE X T W b fb) : DE X T W (.Compare a [.NotEq] [b] pos) (dOp2 gNe fa fb) := de_cmp (op_neD hu) op2_ne ha hb (nomark _)
theorem dt_eq (hu : X.A.units + 64 < cLine) (ha : DE X T W a fa) (hb : DE X T W b fb) : DT X T W (.Compare a [.Eq] [b] pos) (dTst (dOp2 gEq fa fb)) := dt_cmp (op_eqD hu) op2_eq ha hb (nomark _)
theorem dt_ne (hu : X.A.units + 64 < cLine) (ha : DE X T W a fa) (hb : DE X T W b fb) : DT X T W (.Compare a [.NotEq] [b] pos) (dTst (dOp2 gNe fa fb)) := dt_cmp (op_neD hu) op2_ne ha hb (nomark _)
end
end DL

/-! DL11: operators and functions with any answer: data read one level deep; +, *, subscripts, slices, in -/
namespace DL
open PySem PySem.Spec PyProof.Rows L2

section
variable {K : PySem.W.Frag} {T : Tab} {W : WX} {F0 H0 F H F' H' : Hp} {σ0 σ : L2.St} {ε0 ε ε' : En}
/-- a datum read now, its parts for good -/
def RpI (K : PySem.W.Frag) (T : Tab) (F H : Hp) (d : D) (v : V) : Prop :=
  match d with
  | .lst ds => ∃ a vs, v = .ref a ∧ SqL K H a vs ∧ Rps K T F ds vs
  | .tup ds => ∃ a vs, v = .ref a ∧ SqN K F a vs ∧ Rps K T F ds vs
  | .dK ks ds => ∃ a vs, v = .ref a ∧ Rd H a (.dK (ks.zip vs)) ∧ ks.length = ds.length ∧ Rps K T F ds vs
  | .dT ks ds => ∃ a vs, v = .ref a ∧ Rd H a (.dT (ks.zip vs)) ∧ ks.length = ds.length ∧ Rps K T F ds vs
  | .dF ks ds => ∃ a o vs, v = .ref a ∧ H a = some (.frz o (.dK (ks.zip vs))) ∧ ks.length = ds.length ∧ Rps K T F ds vs
  | .fl ds => ∃ a vs, v = .ref a ∧ H a = some (.lst vs) ∧ Rps K T F ds vs
  | .ins c fs ds => ∃ a dx vs, v = .ref a ∧ H a = some (.ins (T.cls c) dx (fs.zip vs)) ∧ fs.length = ds.length ∧ Rps K T F ds vs
  | .non => v = .non | .bl b => v = .bl b | .int i => v = .int i | .str x => v = .str x | .fn n => v = .ref (T.fn n) | .ty n => v = .ty n
theorem rp_rpi (s : Same F H) {d : D} {v : V} (h : Rp K T F d v) : RpI K T F H d v := by
  cases d with
  | lst ds => obtain ⟨a, vs, e, q, r⟩ := rp_lst.mp h; exact ⟨a, vs, e, sqL_mono s q, r⟩
  | tup ds => exact rp_tup.mp h
  | dK ks ds => obtain ⟨a, vs, e, q, r⟩ := rp_dK.mp h; exact ⟨a, vs, e, rd_mono s q, r⟩
  | dT ks ds => obtain ⟨a, vs, e, q, r⟩ := rp_dT.mp h; exact ⟨a, vs, e, rd_mono s q, r⟩
  | ins c fs ds => obtain ⟨a, dx, vs, e, q, r⟩ := rp_ins.mp h; exact ⟨a, dx, vs, e, s _ _ q, r⟩
  | dF ks ds => obtain ⟨a, o, vs, e, q, r⟩ := rp_dF.mp h; exact ⟨a, o, vs, e, s _ _ q, r⟩
  | fl ds => obtain ⟨a, vs, e, q, r⟩ := rp_fl.mp h; exact ⟨a, vs, e, s _ _ q, r⟩
  | non => exact rp_non.mp h
  | bl b => exact rp_bl.mp h
  | int b => exact rp_int.mp h
  | str b => exact rp_str.mp h
  | fn b => exact rp_fn.mp h
  | ty b => exact rp_ty.mp h
theorem rpo_rpi {d : D} {o : HO} {a : Addr} (h : RpO K T F d o) (e : H a = some o) : RpI K T F H d (.ref a) := by
  unfold RpO at h
  split at h
  · exact ⟨a, _, rfl, .inl (.inl e), h⟩
  · obtain ⟨vs, e', l, h⟩ := h
    subst e'
    exact ⟨a, vs, rfl, .inl e, l, h⟩
  · obtain ⟨vs, e', l, h⟩ := h
    subst e'
    exact ⟨a, vs, rfl, .inl e, l, h⟩
  · obtain ⟨ec, vs, e', l, h⟩ := h
    subst e' ec
    exact ⟨a, _, vs, rfl, e, l, h⟩
  · exact h.elim
theorem res_rpi {r : R} {v : V} {d : D} (k : Ok K T F H σ ε) (h : RpR K T F H σ ε r v) (e : res ε r = some d) : RpI K T F H d v := by
  cases r with
  | fz d' => cases e; exact rp_rpi k.sub h
  | new d' =>
    cases e
    obtain ⟨a, o, rfl, _, g, q, _⟩ := h
    exact rpo_rpi q g
  | «at» i =>
    have e := res_at e
    obtain ⟨a, o, s, _, g, q⟩ := k.own i d e
    have h : σ[i]? = some (some v) := h
    rw [s] at h
    cases h
    exact rpo_rpi q g
theorem rpi_int {i : Int} {v : V} (h : RpI K T F H (.int i) v) : v = .int i := h
theorem rpi_bl {i : Bool} {v : V} (h : RpI K T F H (.bl i) v) : v = .bl i := h
theorem rpi_str {i : Str} {v : V} (h : RpI K T F H (.str i) v) : v = .str i := h
theorem rpi_flat {d : D} {v : V} (hf : flat d = true) (h : RpI K T F H d v) : Rp K T F' d v := by
  cases d with
  | non => exact rp_non.mpr h
  | bl b => exact rp_bl.mpr h
  | int b => exact rp_int.mpr h
  | str b => exact rp_str.mpr h
  | fn b => exact rp_fn.mpr h
  | ty b => exact rp_ty.mpr h
  | _ => cases hf
theorem rpi_rp (s : Same F H) {d : D} {v : V} (h : RpI K T F H d v) : Rp K T H d v := by
  cases d with
  | lst ds => obtain ⟨a, vs, e, q, r⟩ := h; exact rp_lst.mpr ⟨a, vs, e, q, Rps.mono s _ _ r⟩
  | tup ds => obtain ⟨a, vs, e, q, r⟩ := h; exact rp_tup.mpr ⟨a, vs, e, q.mono s, Rps.mono s _ _ r⟩
  | dK ks ds => obtain ⟨a, vs, e, q, l, r⟩ := h; exact rp_dK.mpr ⟨a, vs, e, q, l, Rps.mono s _ _ r⟩
  | dT ks ds => obtain ⟨a, vs, e, q, l, r⟩ := h; exact rp_dT.mpr ⟨a, vs, e, q, l, Rps.mono s _ _ r⟩
  | ins c fs ds => obtain ⟨a, dx, vs, e, q, l, r⟩ := h; exact rp_ins.mpr ⟨a, dx, vs, e, q, l, Rps.mono s _ _ r⟩
  | dF ks ds => obtain ⟨a, o, vs, e, q, l, r⟩ := h; exact rp_dF.mpr ⟨a, o, vs, e, q, l, Rps.mono s _ _ r⟩
  | fl ds => obtain ⟨a, vs, e, q, r⟩ := h; exact rp_fl.mpr ⟨a, vs, e, q, Rps.mono s _ _ r⟩
  | non => exact rp_non.mpr h
  | bl b => exact rp_bl.mpr h
  | int b => exact rp_int.mpr h
  | str b => exact rp_str.mpr h
  | fn b => exact rp_fn.mpr h
  | ty b => exact rp_ty.mpr h
def RpIs (K : PySem.W.Frag) (T : Tab) (F H : Hp) : List D → List V → Prop
  | [], vs => vs = []
  | d :: ds, vs => ∃ v r, vs = v :: r ∧ RpI K T F H d v ∧ RpIs K T F H ds r
theorem ress_rpis : ∀ {rs : List R} {vs : List V} {ds : List D}, Ok K T F H σ ε → RpRs K T F H σ ε rs vs → ress ε rs = some ds → RpIs K T F H ds vs
  | [], vs, ds, k, h, e => by cases e; exact h
  | r :: rs, vs, ds, k, h, e => by
    obtain ⟨v, w, rfl, h1, h2⟩ := h
    have e : (match res ε r, ress ε rs with | some d, some ds => some (d :: ds) | _, _ => none) = some ds := e
    cases e1 : res ε r with
    | none => simp only [e1] at e; cases e
    | some d =>
      cases e2 : ress ε rs with
      | none => simp only [e1, e2] at e; cases e
      | some es =>
        simp only [e1, e2] at e
        cases e
        exact ⟨v, w, rfl, res_rpi k h1 e1, ress_rpis k h2 e2⟩
theorem rpis1 {d : D} {vs : List V} (h : RpIs K T F H [d] vs) : ∃ v, vs = [v] ∧ RpI K T F H d v := by
  obtain ⟨v, w, rfl, h1, h2⟩ := h
  have h2 : w = [] := h2
  subst h2
  exact ⟨v, rfl, h1⟩
theorem rpis2 {d d2 : D} {vs : List V} (h : RpIs K T F H [d, d2] vs) : ∃ v v2, vs = [v, v2] ∧ RpI K T F H d v ∧ RpI K T F H d2 v2 := by
  obtain ⟨v, w, rfl, h1, h2⟩ := h
  obtain ⟨v2, e2, h3⟩ := rpis1 h2
  subst e2
  exact ⟨v, v2, rfl, h1, h3⟩

/-- an answer: a datum for good, a new object, a tuple (a new one or not) -/
inductive An where
  | fz (d : D) | nw (d : D) | nt (ds : List D)
def An.r : An → R
  | .fz d => .fz d
  | .nw d => .new d
  | .nt ds => .fz (.tup ds)
def An.ok (K : PySem.W.Frag) (T : Tab) (F H : Hp) (a : An) (Q : VK) : Prop :=
  match a with
  | .fz d => ∀ v, Rp K T F d v → Q v H
  | .nw d => ∀ p o, H p = none → RpO K T F d o → Q (.ref p) (upd H p o)
  | .nt ds => (∀ p o vs, H p = none → o.dict = none → Rps K T F ds vs → Q (.ref p) (upd H p (.frz o (.tup vs)))) ∧ ∀ v, Rp K T F (.tup ds) v → Q v H
theorem An.run {a : An} {Q : VK} (k : Ok K T F H σ ε) (x : Ext F0 H0 σ ε0 F H σ ε) (p : Po K T W F0 H0 σ ε0 (.ok a.r ε) (SE K T H0 σ Q)) : a.ok K T F H Q := by
  cases a with
  | fz d => exact fun v hv => SE.fin k x p hv (by simp [An.r, newA])
  | nw d => exact fun q o hq r => SE.new k x p hq r
  | nt ds => exact ⟨fun q o vs hq ho r => SE.newT k x p hq r ho, fun v hv => SE.fin k x p hv (by simp [An.r, newA])⟩
end

section
variable {X : Cx} {T : Tab} {W : WX} {e a b c : Expr} {es : List Expr} {f fa fb fc : En → O R} {fs : En → O (List R)} {pos p : Pos}
/-! ### two operands -/
def OpA (K : PySem.W.Frag) (T : Tab) (g : D → D → Option An) (r : R2) : Prop :=
  ∀ d1 d2 a x y F H Q, g d1 d2 = some a → RpI K T F H d1 x → RpI K T F H d2 y → Same F H → An.ok K T F H a Q → r x y H Q
def vAn (ε : En) (o : Option An) : O R :=
  match o with
  | some a => .ok a.r ε
  | none => .bad
def vOpA (g : D → D → Option An) (ε : En) (r1 r2 : R) : O R :=
  match res ε r1, res ε r2 with
  | some d1, some d2 => vAn ε (g d1 d2)
  | _, _ => .bad
def dOpA (g : D → D → Option An) (fa fb : En → O R) : En → O R := fun ε => (fa ε).bind fun r1 ε1 => (fb ε1).bind fun r2 ε2 => vOpA g ε2 r1 r2
theorem opA_use {g : D → D → Option An} {r : R2} (hg : OpA X.K T g r) {σ : L2.St} {H : Hp} {Q : VK} (q : tD X.K T W (dOpA g fa fb) σ H Q) : tOp r (tD X.K T W fa) (tD X.K T W fb) σ H Q := by
  obtain ⟨F, ε, k, p⟩ := q
  refine two_use (g := fun r1 r2 ε2 => vOpA g ε2 r1 r2) k Ext.refl p fun v1 v2 F2 H2 r1 r2 ε2 k2 _ x2 q1 q2 n1 n2 nd p2 => ?_
  unfold vOpA at p2
  cases e1 : res ε2 r1 with
  | none => simp only [e1] at p2; exact p2.elim
  | some d1 =>
    cases e2 : res ε2 r2 with
    | none => simp only [e1, e2] at p2; exact p2.elim
    | some d2 =>
      simp only [e1, e2] at p2
      cases e3 : g d1 d2 with
      | none => rw [e3] at p2; exact p2.elim
      | some a =>
        rw [e3] at p2
        exact hg d1 d2 a v1 v2 F2 H2 Q e3 (res_rpi k2 q1 e1) (res_rpi k2 q2 e2) k2.sub (An.run k2 x2 p2)
theorem de_opA {op : Operator} {g : D → D → Option An} {r : R2} (ho : OpR X (binaryOp op) r) (hg : OpA X.K T g r) (ha : DE X T W a fa) (hb : DE X T W b fb) : DE X T W (.BinOp a op b pos) (dOpA g fa fb) :=
  PE.imp (pe_op ho ha hb) fun _ _ _ q => opA_use hg q
theorem de_ixA {g : D → D → Option An} {r : R2} (ho : IxR X r) (hg : OpA X.K T g r) (ha : DE X T W a fa) (hb : DE X T W b fb) (hs : PlainIx b := by intro _ _; rfl) : DE X T W (.Subscript a b pos) (dOpA g fa fb) :=
  PE.imp (pe_ix ho ha hb hs) fun _ _ _ q => opA_use hg q
/-! ### functions of builtins -/
def FnA (K : PySem.W.Frag) (T : Tab) (g : List D → Option An) (r : List V → Hp → VK → Prop) : Prop :=
  ∀ ds a vs F H Q, g ds = some a → RpIs K T F H ds vs → Same F H → An.ok K T F H a Q → r vs H Q
def vFn (g : List D → Option An) (ε : En) (rs : List R) : O R :=
  match ress ε rs with
  | some ds => vAn ε (g ds)
  | none => .bad
def dFn (g : List D → Option An) (fs : En → O (List R)) : En → O R := fun ε => (fs ε).bind fun rs ε1 => vFn g ε1 rs
theorem fnA_use {g : List D → Option An} {r : List V → Hp → VK → Prop} (hg : FnA X.K T g r) {σ : L2.St} {H : Hp} {Q : VK} (q : tD X.K T W (dFn g fs) σ H Q) : tCB r (tDA X.K T W fs) σ H Q := by
  obtain ⟨F, ε, k, p⟩ := q
  refine tDA_use (g := fun rs ε1 => vFn g ε1 rs) k Ext.refl p fun vs F1 H1 rs ε1 k1 _ x1 q1 n1 nd p1 => ?_
  unfold vFn at p1
  cases e1 : ress ε1 rs with
  | none => simp only [e1] at p1; exact p1.elim
  | some ds =>
    simp only [e1] at p1
    cases e2 : g ds with
    | none => rw [e2] at p1; exact p1.elim
    | some a =>
      rw [e2] at p1
      exact hg ds a vs F1 H1 Q e2 (ress_rpis k1 q1 e1) k1.sub (An.run k1 x1 p1)
theorem de_fn {x : Str} {id : String} {g : List D → Option An} {r : List V → Hp → VK → Prop} (hc : CallR X (.builtin id) r) (hg : FnA X.K T g r) (gl : Gl X x) (hm : X.mg x = none) (ha : DA X T W (e :: es) fs) (hv : bootBuiltins x = some (.builtin id) := by decide +kernel) (hn : x ≠ "__name__" := by decide) (hdb : (x == ("__debug__" : Str)) = false := by decide)
    (he : starEach (e :: es) X.env = (false, eval e X.env) :: starEach es X.env := by rfl) (hpl : (backTo pos (starEach es X.env)).any (·.1) = false := by rfl) : DE X T W (.Call (.Name x p) (e :: es) [] pos) (dFn g fs) :=
  PE.imp (pe_callB hc gl hm hv ha hn hdb he hpl) fun _ _ _ q => fnA_use hg q
theorem de_fnTy {x : Str} {id : String} {g : List D → Option An} {r : List V → Hp → VK → Prop} (hc : CallR X (.type id) r) (hg : FnA X.K T g r) (gl : Gl X x) (hm : X.mg x = none) (ha : DA X T W (e :: es) fs) (hv : bootBuiltins x = some (.type id) := by decide +kernel) (hn : x ≠ "__name__" := by decide) (hdb : (x == ("__debug__" : Str)) = false := by decide)
    (he : starEach (e :: es) X.env = (false, eval e X.env) :: starEach es X.env := by rfl) (hpl : (backTo pos (starEach es X.env)).any (·.1) = false := by rfl) : DE X T W (.Call (.Name x p) (e :: es) [] pos) (dFn g fs) :=
  PE.imp (pe_callTy hc gl hm hv ha hn hdb he hpl) fun _ _ _ q => fnA_use hg q
/-- a built-in type as a value -/
theorem de_ty {x : Str} {n : String} (gl : Gl X x) (hm : X.mg x = none) (hv : bootBuiltins x = some (.type n) := by decide +kernel) (hn : x ≠ "__name__" := by decide) (hdb : (x == ("__debug__" : Str)) = false := by decide) : DE X T W (.Name x pos) (dC (.ty n)) :=
  de_const (pe_bltn (v := .ty n) gl hm hv rfl hn hdb) fun _ => rp_ty.mpr rfl

/-! ### + -/
def big : Nat := 1000000
def gAdd : D → D → Option An
  | .int i, .int j => some (.fz (.int (i + j)))
  | .str x, .str y => if x.length + y.length ≤ big then some (.fz (.str (x ++ y))) else none
  | .tup xs, .tup ys => if xs.length + ys.length ≤ big then some (.nt (xs ++ ys)) else none
  | .lst xs, .lst ys => if xs.length + ys.length ≤ big then some (.nw (.lst (xs ++ ys))) else none
  | _, _ => none
theorem bigLine {n : Nat} (h : n ≤ big) : n ≤ sizeLine := line1M h
/-- list + list, whoever holds them -/
def rCatL (K : PySem.W.Frag) : R2 := fun x y H Q => ∃ a b xs ys, x = .ref a ∧ y = .ref b ∧ SqL K H a xs ∧ SqL K H b ys ∧ xs.length + ys.length ≤ sizeLine ∧ ∀ p, H p = none → Q (.ref p) (upd H p (.lst (xs ++ ys)))
theorem op_catL : OpR X (binaryOp .Add) (rCatL X.K) := by
  intro pins s σ H x y v u Q I rx ry h
  obtain ⟨a, b, xs, ys, rfl, rfl, ha, hb, hz, q⟩ := h
  cases rx
  cases ry
  obtain ⟨its, r1, ⟨⟨c1, dd, dt1, sl1⟩, n1, h1, k1, dn1, dd1⟩, _⟩ := I.list ha
  obtain ⟨its2, r2, ⟨⟨c2, dd2, dt2, sl2⟩, n2, h2, k2, dn2, dd2'⟩, _⟩ := I.list hb
  simp only at k1 dn1 dd1 k2 dn2 dd2'
  subst k1 dn1 dd1 k2 dn2 dd2'
  have hs : its.toArray.size + its2.toArray.size ≤ sizeLine := by
    have l1 := r1.length
    have l2 := r2.length
    rw [List.size_toArray, List.size_toArray]
    omega
  refine concat_meets ⟨_, h1, rfl⟩ ⟨_, h2, rfl⟩ noFill_list_add seq_list_add PySem.F.slot_list_add PySem.F.entry_list_add (PySem.F.args_list_add_2 _ _) (list_addW a b its.toArray its2.toArray n1 n2 none none sl1 sl2 hs) ⟨h1, h2, ?_⟩
  have ea : its.toArray ++ its2.toArray = (its ++ its2).toArray := by simp
  rw [ea]
  exact ⟨.ref s.heap.objs.size, _, I.lnew (t' := s.toks) (r1.append r2) (by rw [List.length_append]; exact hz), rfl, q _ (I.hok.fresh (Nat.le_refl _))⟩
/-- tuple + tuple, the new one's object known -/
def rCatN (K : PySem.W.Frag) : R2 := fun x y H Q => ∃ a b xs ys, x = .ref a ∧ y = .ref b ∧ SqT K H a xs ∧ SqT K H b ys ∧ xs.length + ys.length ≤ sizeLine ∧
  (xs = [] → Q (.ref b) H) ∧ (xs ≠ [] → ys = [] → Q (.ref a) H) ∧ (xs ≠ [] → ys ≠ [] → NewT Q H (xs ++ ys))
theorem op_catN : OpR X (binaryOp .Add) (rCatN X.K) := by
  intro pins s σ H x y v u Q I rx ry h
  obtain ⟨a, b, xs, ys, rfl, rfl, ha, hb, hz, q0, q1, q2⟩ := h
  by_cases hx : xs = []
  · subst hx
    refine op_catA pins s σ H _ _ v u Q I rx ry ⟨a, b, [], ys, rfl, rfl, ha, hb, hz, q0, fun z => absurd rfl z, fun z => absurd rfl z⟩
  · cases rx
    cases ry
    obtain ⟨its, r1, p1, _⟩ := I.tuple ha
    obtain ⟨its2, r2, p2, _⟩ := I.tuple hb
    refine HT.cat_tup p1 p2 (fun z => hx (r1.nil_iff.mp z)) (fun z => ⟨.ref a, H, I, rfl, q1 hx (r2.nil_iff.mp z)⟩) (fun z => ?_) (by rw [← r1.length, ← r2.length]; exact hz)
    exact ⟨.ref s.heap.objs.size, _, I.laid (t' := s.toks) (fun b ob q => Heap.get?_push_of_some _ q) (Nat.le_refl _) (tup_new (Heap.get?_push_size _ rfl) rfl (r1.append r2) (by rw [List.length_append]; exact hz)), rfl, q2 hx (fun w => z (r2.nil_iff.mpr w)) _ _ (I.hok.fresh (Nat.le_refl _)) rfl⟩
def rAddA (K : PySem.W.Frag) : R2 := fun x y H Q => rI0 (fun i j => .int (i + j)) x y H Q ∨ (∃ i j, x = .str i ∧ y = .str j ∧ i.length + j.length ≤ sizeLine ∧ Q (.str (i ++ j)) H) ∨ rCatN K x y H Q ∨ rCatL K x y H Q
theorem op_addA : OpR X (binaryOp .Add) (rAddA X.K) := op_add.or (op_add_str.or (op_catN.or op_catL))
theorem opA_add {K : PySem.W.Frag} : OpA K T gAdd (rAddA K) := fun d1 d2 a x y F H Q e r1 r2 s q => by
  cases d1 <;> first | (cases e; done) | skip
  case int i =>
    cases d2 <;> first | (cases e; done) | skip
    rename_i j
    cases e
    exact .inl ⟨i, j, r1, r2, q _ (rp_int.mpr rfl)⟩
  case str i =>
    cases d2 <;> first | (cases e; done) | skip
    rename_i j
    have e : (if i.length + j.length ≤ big then some (An.fz (.str (i ++ j))) else none) = some a := e
    by_cases h : i.length + j.length ≤ big
    · rw [if_pos h] at e
      cases e
      exact .inr (.inl ⟨i, j, r1, r2, bigLine h, q _ (rp_str.mpr rfl)⟩)
    · rw [if_neg h] at e; cases e
  case tup xs =>
    cases d2 <;> first | (cases e; done) | skip
    rename_i ys
    have e : (if xs.length + ys.length ≤ big then some (An.nt (xs ++ ys)) else none) = some a := e
    by_cases h : xs.length + ys.length ≤ big
    · rw [if_pos h] at e
      cases e
      obtain ⟨a, vs, rfl, hq, hr⟩ := r1
      obtain ⟨b, us, rfl, hq2, hr2⟩ := r2
      obtain ⟨qn, qo⟩ := q
      refine .inr (.inr (.inl ⟨a, b, vs, us, rfl, rfl, (hq.mono s).t, (hq2.mono s).t, by rw [hr.length, hr2.length]; exact bigLine h, fun z => ?_, fun _ z => ?_, fun _ _ p o hp ho => qn p o _ hp ho (hr.append hr2)⟩))
      · refine qo _ (rp_tup.mpr ⟨b, us, rfl, hq2, ?_⟩)
        have := hr.append hr2
        rw [z] at this
        exact this
      · refine qo _ (rp_tup.mpr ⟨a, vs, rfl, hq, ?_⟩)
        have := hr.append hr2
        rw [z, List.append_nil] at this
        exact this
    · rw [if_neg h] at e; cases e
  case lst xs =>
    cases d2 <;> first | (cases e; done) | skip
    rename_i ys
    have e : (if xs.length + ys.length ≤ big then some (An.nw (.lst (xs ++ ys))) else none) = some a := e
    by_cases h : xs.length + ys.length ≤ big
    · rw [if_pos h] at e
      cases e
      obtain ⟨a, vs, rfl, hq, hr⟩ := r1
      obtain ⟨b, us, rfl, hq2, hr2⟩ := r2
      exact .inr (.inr (.inr ⟨a, b, vs, us, rfl, rfl, hq, hq2, by rw [hr.length, hr2.length]; exact bigLine h, fun p hp => q p _ hp (rpO_lst.mpr ⟨_, rfl, hr.append hr2⟩)⟩))
    · rw [if_neg h] at e; cases e
theorem de_add (ha : DE X T W a fa) (hb : DE X T W b fb) : DE X T W (.BinOp a .Add b pos) (dOpA gAdd fa fb) := de_opA op_addA opA_add ha hb

/-! ### xs[i] -/
def gIx : D → D → Option An
  | .lst ds, .int i => (atI ds i).map .fz
  | .tup ds, .int i => (atI ds i).map .fz
  | _, _ => none
theorem atI_rps {K : PySem.W.Frag} {F : Hp} {ds : List D} {vs : List V} {i : Int} {d : D} (h : Rps K T F ds vs) (e : atI ds i = some d) : ∃ v, atI vs i = some v ∧ Rp K T F d v := by
  unfold atI at e ⊢
  rw [h.length]
  cases e1 : ixN ds.length i with
  | none => rw [e1] at e; cases e
  | some j => rw [e1] at e; exact h.get e
theorem opA_ix {K : PySem.W.Frag} : OpA K T gIx (rIx K) := fun d1 d2 a x y F H Q e r1 r2 s q => by
  cases d1 <;> first | (cases e; done) | skip
  all_goals (cases d2 <;> first | (cases e; done) | skip)
  all_goals
    rename_i ds i
    have e : (atI ds i).map An.fz = some a := e
    cases e1 : atI ds i with
    | none => rw [e1] at e; cases e
    | some d =>
      rw [e1] at e
      cases e
      obtain ⟨b, vs, rfl, hq, hr⟩ := r1
      obtain ⟨v, ev, rv⟩ := atI_rps hr e1
      first
        | exact .inl ⟨b, vs, i, v, rfl, r2, hq, ev, q v rv⟩
        | exact .inr (.inl ⟨b, vs, i, v, rfl, r2, (hq.mono s).t, ev, q v rv⟩)
theorem de_ix (ha : DE X T W a fa) (hb : DE X T W b fb) (hs : PlainIx b := by intro _ _; rfl) : DE X T W (.Subscript a b pos) (dOpA gIx fa fb) := de_ixA ix_seq opA_ix ha hb hs
end
end DL

/-! DL12: *, -, in, is, chains, slices; built-in functions -/
namespace DL
open PySem PySem.Spec PyProof.Rows L2

/-! ### data that are ints, bools -/
def toI : D → Option Int
  | .int i => some i
  | _ => none
def toIs : List D → Option (List Int)
  | [] => some []
  | d :: ds => match toI d, toIs ds with
    | some i, some is => some (i :: is)
    | _, _ => none
theorem toIs_map : ∀ {ds : List D} {ns : List Int}, toIs ds = some ns → ds = ns.map D.int
  | [], ns, h => by cases h; rfl
  | d :: ds, ns, h => by
    unfold toIs at h
    cases e1 : toI d with
    | none => simp only [e1] at h; cases h
    | some i =>
      cases e2 : toIs ds with
      | none => simp only [e1, e2] at h; cases h
      | some is =>
        simp only [e1, e2] at h
        cases h
        cases d <;> first | (cases e1; done) | skip
        cases e1
        rw [toIs_map e2]; rfl
theorem toIs_of (ns : List Int) : toIs (ns.map D.int) = some ns := by
  induction ns with
  | nil => rfl
  | cons n ns ih => show (match toI (.int n), toIs (ns.map D.int) with | some i, some is => some (i :: is) | _, _ => none) = _; rw [ih]; rfl
def toB : D → Option Bool
  | .bl i => some i
  | _ => none
def toBs : List D → Option (List Bool)
  | [] => some []
  | d :: ds => match toB d, toBs ds with
    | some i, some is => some (i :: is)
    | _, _ => none
theorem toBs_map : ∀ {ds : List D} {ns : List Bool}, toBs ds = some ns → ds = ns.map D.bl
  | [], ns, h => by cases h; rfl
  | d :: ds, ns, h => by
    unfold toBs at h
    cases e1 : toB d with
    | none => simp only [e1] at h; cases h
    | some i =>
      cases e2 : toBs ds with
      | none => simp only [e1, e2] at h; cases h
      | some is =>
        simp only [e1, e2] at h
        cases h
        cases d <;> first | (cases e1; done) | skip
        cases e1
        rw [toBs_map e2]; rfl
theorem toBs_of (ns : List Bool) : toBs (ns.map D.bl) = some ns := by
  induction ns with
  | nil => rfl
  | cons n ns ih => show (match toB (.bl n), toBs (ns.map D.bl) with | some i, some is => some (i :: is) | _, _ => none) = _; rw [ih]; rfl
theorem rps_ints {K : PySem.W.Frag} {T : Tab} {F : Hp} {ds : List D} {ns : List Int} {vs : List V} (e : toIs ds = some ns) (h : Rps K T F ds vs) : vs = ns.map V.int := by
  rw [toIs_map e] at h
  exact (Rps.ints ns vs).mp h
theorem rps_bls {K : PySem.W.Frag} {T : Tab} {F : Hp} : ∀ {bs : List Bool} {vs : List V}, Rps K T F (bs.map D.bl) vs → vs = bs.map V.bl
  | [], vs, h => rps_nil.mp h
  | b :: bs, vs, h => by
    obtain ⟨v, r, rfl, h1, h2⟩ := rps_cons.mp h
    rw [rp_bl.mp h1, rps_bls h2]; rfl

section
variable {X : Cx} {T : Tab} {W : WX} {e a b c : Expr} {es : List Expr} {f fa fb fc : En → O R} {fs : En → O (List R)} {pos p : Pos}

/-! ### - -/
def dUn (g : D → Option D) (fa : En → O R) : En → O R := fun ε => (fa ε).bind fun r ε1 => match res ε1 r with
  | some d => match g d with
    | some d' => .ok (.fz d') ε1
    | none => .bad
  | none => .bad
def gNeg : D → Option D
  | .int i => some (.int (-i))
  | _ => none
theorem de_neg (ha : DE X T W a fa) : DE X T W (.UnaryOp .USub a pos) (dUn gNeg fa) := by
  refine PE.imp (pe_un un_neg ha) fun σ H Q q => ?_
  obtain ⟨F, ε, k, p⟩ := q
  refine tD_use k Ext.refl p fun v F1 H1 r ε1 k1 _ x1 q1 n1 p1 => ?_
  cases e1 : res ε1 r with
  | none => simp only [e1] at p1; exact p1.elim
  | some d =>
    simp only [e1] at p1
    cases d with
    | int i =>
      have p1 : Po X.K T W F H σ ε (.ok (.fz (.int (-i))) ε1) (SE X.K T H σ Q) := p1
      exact ⟨i, rp_int.mp (res_rp k1 q1 e1), SE.flat (d := .int (-i)) (H' := H1) k1 x1 p1 rfl (rp_int.mpr rfl)⟩
    | _ => exact p1.elim

/-! ### * -/
def mulOk (i j : Int) : Bool := decide (i.natAbs < 2 ^ 64) || decide (j.natAbs < 2 ^ 64)
def rep {α : Type} (k : Int) (xs : List α) : List α := (List.replicate k.toNat xs).flatten
def isNew : R → Bool
  | .new _ => true
  | _ => false
def vMul (ε : En) (r1 r2 : R) : O R :=
  match res ε r1, res ε r2 with
  | some (.int i), some (.int j) => if mulOk i j then .ok (.fz (.int (i * j))) ε else .bad
  | some (.lst ds), some (.int k) => if isNew r1 && decide (-1000000 ≤ k) && decide (k ≤ 1000000) && decide (ds.length * k.toNat ≤ 1000000) then .ok (.new (.lst (rep k ds))) ε else .bad
  | _, _ => .bad
def dMul (fa fb : En → O R) : En → O R := fun ε => (fa ε).bind fun r1 ε1 => (fb ε1).bind fun r2 ε2 => vMul ε2 r1 r2
theorem rps_rep {K : PySem.W.Frag} {F : Hp} {ds : List D} {vs : List V} (h : Rps K T F ds vs) : ∀ n : Nat, Rps K T F (List.replicate n ds).flatten (List.replicate n vs).flatten
  | 0 => rps_nil.mpr rfl
  | n + 1 => by
    rw [List.replicate_succ, List.replicate_succ, List.flatten_cons, List.flatten_cons]
    exact h.append (rps_rep h n)
theorem de_mul (ha : DE X T W a fa) (hb : DE X T W b fb) : DE X T W (.BinOp a .Mult b pos) (dMul fa fb) := by
  refine PE.imp (pe_op (op_mul.or op_rep) ha hb) fun σ H Q q => ?_
  obtain ⟨F, ε, k, p⟩ := q
  refine two_use (g := fun r1 r2 ε2 => vMul ε2 r1 r2) k Ext.refl p fun v1 v2 F2 H2 r1 r2 ε2 k2 _ x2 q1 q2 n1 n2 nd p2 => ?_
  unfold vMul at p2
  split at p2
  · rename_i i j e1 e2
    split at p2
    · rename_i h
      refine .inl ⟨i, j, rp_int.mp (res_rp k2 q1 e1), rp_int.mp (res_rp k2 q2 e2), ?_, SE.flat (d := .int (i * j)) (H' := H2) k2 x2 p2 rfl (rp_int.mpr rfl)⟩
      unfold mulOk at h
      rw [Bool.or_eq_true, decide_eq_true_eq, decide_eq_true_eq] at h
      unfold CMul
      rcases h with h | h
      · exact .inl (by omega)
      · exact .inr (by omega)
    · exact p2.elim
  · rename_i ds kk e1 e2
    split at p2
    · rename_i h
      rw [Bool.and_eq_true, Bool.and_eq_true, Bool.and_eq_true, decide_eq_true_eq, decide_eq_true_eq, decide_eq_true_eq] at h
      cases r1 with
      | fz d => exact absurd h.1.1.1 (by simp [isNew])
      | «at» i => exact absurd h.1.1.1 (by simp [isNew])
      | new d =>
      cases e1
      obtain ⟨pa, o, rfl, _, g, qo, _⟩ := q1
      obtain ⟨vs, rfl, hr⟩ := rpO_lst.mp qo
      refine .inr ⟨pa, kk, vs, rfl, rp_int.mp (res_rp k2 q2 e2), g, by omega, by omega, by rw [hr.length]; exact line1M h.2, fun q hq => SE.new k2 x2 p2 hq (rpO_lst.mpr ⟨_, rfl, rps_rep hr _⟩)⟩
    · exact p2.elim
  · exact p2.elim

/-! ### in, not in -/
def inD (d : D) (ds : List D) : Bool := ds.any fun y => deq y d
def allOkq (ds : List D) : Bool := ds.all fun d => flat d && sok d
def gIn (neg : Bool) : D → D → Option D
  | d, .lst ds => if (flat d && sok d) && allOkq ds then some (.bl (if neg then !inD d ds else inD d ds)) else none
  | d, .tup ds => if (flat d && sok d) && allOkq ds then some (.bl (if neg then !inD d ds else inD d ds)) else none
  | _, _ => none
theorem not_sok_fn {n : Nat} : sok (.fn n) = false := by unfold sok; rfl
theorem not_sok_ty {n : String} : sok (.ty n) = false := by unfold sok; rfl
theorem flat_V {K : PySem.W.Frag} {F : Hp} {d : D} {v : V} (h : (flat d && sok d) = true) (r : Rp K T F d v) : flatV v = true := by
  rw [Bool.and_eq_true] at h
  cases d with
  | non => rw [rp_non.mp r]; rfl
  | bl b => rw [rp_bl.mp r]; rfl
  | int b => rw [rp_int.mp r]; rfl
  | str b => rw [rp_str.mp r]; rfl
  | fn n => exact absurd h.2 (by unfold sok; simp)
  | ty n => exact absurd h.2 (by unfold sok; simp)
  | _ => cases h.1
theorem eqV_deq {K : PySem.W.Frag} {F F' : Hp} {d d' : D} {v v' : V} (h : (flat d && sok d) = true) (h' : (flat d' && sok d') = true) (r : Rp K T F d v) (r' : Rp K T F' d' v') : eqV v v' = deq d d' := by
  rw [Bool.and_eq_true] at h h'
  cases d with
  | non => rw [rp_non.mp r]; cases d' <;> first | (cases h'.1; done) | (rw [not_sok_fn] at h'; exact absurd h'.2 (by decide)) | (rw [not_sok_ty] at h'; exact absurd h'.2 (by decide)) | (first | rw [rp_non.mp r'] | rw [rp_bl.mp r'] | rw [rp_int.mp r'] | rw [rp_str.mp r']); simp [eqV, deq]
  | bl b => rw [rp_bl.mp r]; cases d' <;> first | (cases h'.1; done) | (rw [not_sok_fn] at h'; exact absurd h'.2 (by decide)) | (rw [not_sok_ty] at h'; exact absurd h'.2 (by decide)) | (first | rw [rp_non.mp r'] | rw [rp_bl.mp r'] | rw [rp_int.mp r'] | rw [rp_str.mp r']); simp [eqV, deq]
  | int b => rw [rp_int.mp r]; cases d' <;> first | (cases h'.1; done) | (rw [not_sok_fn] at h'; exact absurd h'.2 (by decide)) | (rw [not_sok_ty] at h'; exact absurd h'.2 (by decide)) | (first | rw [rp_non.mp r'] | rw [rp_bl.mp r'] | rw [rp_int.mp r'] | rw [rp_str.mp r']); simp [eqV, deq]
  | str b => rw [rp_str.mp r]; cases d' <;> first | (cases h'.1; done) | (rw [not_sok_fn] at h'; exact absurd h'.2 (by decide)) | (rw [not_sok_ty] at h'; exact absurd h'.2 (by decide)) | (first | rw [rp_non.mp r'] | rw [rp_bl.mp r'] | rw [rp_int.mp r'] | rw [rp_str.mp r']); simp [eqV, deq]
  | fn n => exact absurd h.2 (by unfold sok; simp)
  | ty n => exact absurd h.2 (by unfold sok; simp)
  | _ => cases h.1
theorem allOkq_V {K : PySem.W.Frag} {F : Hp} : ∀ {ds : List D} {vs : List V}, allOkq ds = true → Rps K T F ds vs → vs.all flatV = true
  | [], vs, _, h => by rw [rps_nil.mp h]; rfl
  | d :: ds, vs, a, h => by
    obtain ⟨v, r, rfl, h1, h2⟩ := rps_cons.mp h
    unfold allOkq at a
    rw [List.all_cons, Bool.and_eq_true] at a
    rw [List.all_cons, Bool.and_eq_true]
    exact ⟨flat_V a.1 h1, allOkq_V a.2 h2⟩
theorem inV_inD {K : PySem.W.Frag} {F F' : Hp} {d : D} {v : V} (hd : (flat d && sok d) = true) (r : Rp K T F d v) : ∀ {ds : List D} {vs : List V}, allOkq ds = true → Rps K T F' ds vs → inV v vs = inD d ds
  | [], vs, _, h => by rw [rps_nil.mp h]; rfl
  | d' :: ds, vs, a, h => by
    obtain ⟨v', r', rfl, h1, h2⟩ := rps_cons.mp h
    unfold allOkq at a
    rw [List.all_cons, Bool.and_eq_true] at a
    have ih := inV_inD (ds := ds) hd r a.2 h2
    unfold inV inD at ih ⊢
    rw [List.any_cons, List.any_cons, ih, eqV_deq a.1 hd h1 r]
theorem op2_in {K : PySem.W.Frag} {neg : Bool} : Op2 K T (gIn neg) (rIn K neg) := fun d1 d2 d x y H Q e r1 r2 q => by
  cases d2 <;> first | (cases d1 <;> (cases e; done)) | skip
  all_goals
    rename_i ds
    have e : (if ((flat d1 && sok d1) && allOkq ds) = true then some (D.bl (if neg then !inD d1 ds else inD d1 ds)) else none) = some d := by
      cases d1 <;> exact e
    by_cases h : ((flat d1 && sok d1) && allOkq ds) = true
    · rw [if_pos h] at e
      cases e
      rw [Bool.and_eq_true] at h
      first
        | (obtain ⟨a, vs, rfl, hq, hr⟩ := rp_lst.mp r2
           refine ⟨rfl, a, vs, rfl, .inl hq, flat_V h.1 r1, allOkq_V h.2 hr, ?_⟩
           rw [inV_inD h.1 r1 h.2 hr]
           exact q _ (rp_bl.mpr rfl))
        | (obtain ⟨a, vs, rfl, hq, hr⟩ := rp_tupT r2
           refine ⟨rfl, a, vs, rfl, .inr hq, flat_V h.1 r1, allOkq_V h.2 hr, ?_⟩
           rw [inV_inD h.1 r1 h.2 hr]
           exact q _ (rp_bl.mpr rfl))
    · rw [if_neg h] at e; cases e
theorem de_in (ha : DE X T W a fa) (hb : DE X T W b fb) (hm : behindInMarks .In b = false := by first | exact nobehind _ (by decide) (by decide) | rfl) : DE X T W (.Compare a [.In] [b] pos) (dOp2 (gIn false) fa fb) := de_cmp op_in_seq op2_in ha hb hm
theorem de_nin (ha : DE X T W a fa) (hb : DE X T W b fb) (hm : behindInMarks .NotIn b = false := by first | exact nobehind _ (by decide) (by decide) | rfl) : DE X T W (.Compare a [.NotIn] [b] pos) (dOp2 (gIn true) fa fb) := de_cmp op_notIn_seq op2_in ha hb hm
theorem dt_in (ha : DE X T W a fa) (hb : DE X T W b fb) (hm : behindInMarks .In b = false := by first | exact nobehind _ (by decide) (by decide) | rfl) : DT X T W (.Compare a [.In] [b] pos) (dTst (dOp2 (gIn false) fa fb)) := dt_cmp op_in_seq op2_in ha hb hm
theorem dt_nin (ha : DE X T W a fa) (hb : DE X T W b fb) (hm : behindInMarks .NotIn b = false := by first | exact nobehind _ (by decide) (by decide) | rfl) : DT X T W (.Compare a [.NotIn] [b] pos) (dTst (dOp2 (gIn true) fa fb)) := dt_cmp op_notIn_seq op2_in ha hb hm
end
end DL

/-! DL13: is None, chains, slices; stores into own objects; methods of own objects -/
namespace DL
open PySem PySem.Spec PyProof.Rows L2

section
variable {X : Cx} {T : Tab} {W : WX} {e a b c : Expr} {es : List Expr} {f fa fb fc : En → O R} {fs : En → O (List R)} {pos p : Pos}

/-! ### is None -/
def isNon : D → Bool
  | .non => true
  | _ => false
theorem isNon_rp {K : PySem.W.Frag} {H : Hp} {d : D} {v : V} (r : Rp K T H d v) : decide (v = .non) = isNon d := by
  cases d with
  | non => rw [rp_non.mp r]; rfl
  | bl b => rw [rp_bl.mp r]; rfl
  | int b => rw [rp_int.mp r]; rfl
  | str b => rw [rp_str.mp r]; rfl
  | fn b => rw [rp_fn.mp r]; rfl
  | ty b => rw [rp_ty.mp r]; rfl
  | tup ds => obtain ⟨a, vs, rfl, _⟩ := rp_tup.mp r; rfl
  | lst ds => obtain ⟨a, vs, rfl, _⟩ := rp_lst.mp r; rfl
  | dK ks ds => obtain ⟨a, vs, rfl, _⟩ := rp_dK.mp r; rfl
  | dT ks ds => obtain ⟨a, vs, rfl, _⟩ := rp_dT.mp r; rfl
  | ins c fs ds => obtain ⟨a, dx, vs, rfl, _⟩ := rp_ins.mp r; rfl
  | dF ks ds => obtain ⟨a, o, vs, rfl, _⟩ := rp_dF.mp r; rfl
  | fl ds => obtain ⟨a, vs, rfl, _⟩ := rp_fl.mp r; rfl
def dIsN (neg : Bool) (f : En → O R) : En → O R := fun ε => (f ε).bind fun r ε1 => match res ε1 r with
  | some d => .ok (.fz (.bl (if neg then !isNon d else isNon d))) ε1
  | none => .bad
theorem isN_use {K : PySem.W.Frag} {neg : Bool} {σ : L2.St} {H : Hp} {Q : VK} (q : tD K T W (dIsN neg f) σ H Q) : tD K T W f σ H fun x H1 => Q (.bl (if neg then !decide (x = .non) else decide (x = .non))) H1 := by
  obtain ⟨F, ε, k, p⟩ := q
  refine tD_use k Ext.refl p fun v F1 H1 r ε1 k1 _ x1 q1 n1 p1 => ?_
  cases e1 : res ε1 r with
  | none => simp only [e1] at p1; exact p1.elim
  | some d =>
    simp only [e1] at p1
    rw [isNon_rp (res_rp k1 q1 e1)]
    exact SE.flat (d := .bl (if neg then !isNon d else isNon d)) (H' := H1) k1 x1 p1 rfl (rp_bl.mpr rfl)
variable {j : Nat} {pos' : Pos}
theorem de_isN (ha : DE X T W a f) : DE X T W (.Compare a [.Is] [.Constant .none j pos'] pos) (dIsN false f) := PE.imp (pe_cmp (pc_isN ha)) fun σ H Q q => isN_use q
theorem de_notN (ha : DE X T W a f) : DE X T W (.Compare a [.IsNot] [.Constant .none j pos'] pos) (dIsN true f) := PE.imp (pe_cmp (pc_notN ha)) fun σ H Q q => isN_use q
theorem dt_isN (ha : DE X T W a f) : DT X T W (.Compare a [.Is] [.Constant .none j pos'] pos) (dTst (dIsN false f)) := PT.imp (pt_cmp (pc_isN ha)) fun σ H Q q => isN_use (neg := false) (Q := fun x H1 => ∃ c, x = .bl c ∧ Q c H1) (tst_use q)
theorem dt_notN (ha : DE X T W a f) : DT X T W (.Compare a [.IsNot] [.Constant .none j pos'] pos) (dTst (dIsN true f)) := PT.imp (pt_cmp (pc_notN ha)) fun σ H Q q => isN_use (neg := true) (Q := fun x H1 => ∃ c, x = .bl c ∧ Q c H1) (tst_use q)

/-! ### a op b op c -/
def vCh2 (g : D → D → Option D) (d2 : D) (ε : En) (r : R) : O R :=
  match res ε r with
  | some d3 => match g d2 d3 with
    | some d => .ok (.fz d) ε
    | none => .bad
  | none => .bad
def vCh (g g' : D → D → Option D) (fc : En → O R) (ε : En) (r1 r2 : R) : O R :=
  match res ε r1, res ε r2 with
  | some d1, some d2 => if flat d2 then match g d1 d2 with
    | some (.bl b) => if b = true then (fc ε).bind fun r ε1 => vCh2 g' d2 ε1 r else .ok (.fz (.bl false)) ε
    | _ => .bad
    else .bad
  | _, _ => .bad
def dCh (g g' : D → D → Option D) (fa fb fc : En → O R) : En → O R := fun ε => (fa ε).bind fun r1 ε1 => (fb ε1).bind fun r2 ε2 => vCh g g' fc ε2 r1 r2
theorem ch_use {K : PySem.W.Frag} {g g' : D → D → Option D} {r r' : R2} (hg : Op2 K T g r) (hg' : Op2 K T g' r') {σ : L2.St} {H : Hp} {Q : VK} (q : tD K T W (dCh g g' fa fb fc) σ H Q) : tChain r r' (tD K T W fa) (tD K T W fb) (tD K T W fc) σ H Q := by
  obtain ⟨F, ε, k, p⟩ := q
  refine two_use (g := fun r1 r2 ε2 => vCh g g' fc ε2 r1 r2) k Ext.refl p fun v1 v2 F2 H2 r1 r2 ε2 k2 _ x2 q1 q2 n1 n2 nd p2 => ?_
  unfold vCh at p2
  cases e1 : res ε2 r1 with
  | none => simp only [e1] at p2; exact p2.elim
  | some d1 =>
    cases e2 : res ε2 r2 with
    | none => simp only [e1, e2] at p2; exact p2.elim
    | some d2 =>
      simp only [e1, e2] at p2
      by_cases hf : flat d2 = true
      · rw [if_pos hf] at p2
        have a1 := res_rp k2 q1 e1
        have a2 := res_rp k2 q2 e2
        cases e3 : g d1 d2 with
        | none => simp only [e3] at p2; exact p2.elim
        | some d =>
          cases d with
          | bl bb =>
            refine (hg d1 d2 (.bl bb) v1 v2 H2 _ e3 a1 a2 fun v hv => ⟨bb, rp_bl.mp hv, ?_⟩).2
            cases bb with
            | false =>
              simp only [e3] at p2
              rw [if_neg (by decide)] at p2
              rw [if_neg (by decide)]
              exact SE.flat (d := .bl false) (H' := H2) k2 x2 p2 rfl (rp_bl.mpr rfl)
            | true =>
              simp only [e3] at p2
              rw [if_pos trivial] at p2
              rw [if_pos rfl]
              refine tD_use (g := fun r ε1 => vCh2 g' d2 ε1 r) k2 x2 p2 fun v3 F3 H3 r3 ε3 k3 _ x3 q3 n3 p3 => ?_
              unfold vCh2 at p3
              cases e4 : res ε3 r3 with
              | none => simp only [e4] at p3; exact p3.elim
              | some d3 =>
                simp only [e4] at p3
                cases e5 : g' d2 d3 with
                | none => simp only [e5] at p3; exact p3.elim
                | some d =>
                  simp only [e5] at p3
                  have a3 := res_rp k3 q3 e4
                  have a2' : Rp K T H3 d2 v2 := flat_rp hf a2
                  have hd := (hg' d2 d3 d v2 v3 H3 (fun _ _ => True) e5 a2' a3 fun _ _ => trivial).1
                  exact (hg' d2 d3 d v2 v3 H3 Q e5 a2' a3 fun v hv => SE.flat k3 x3 p3 hd hv).2
          | _ => simp only [e3] at p2; exact p2.elim
      · rw [if_neg hf] at p2; exact p2.elim
theorem de_ch {op op' : CmpOp} {g g' : D → D → Option D} {r r' : R2} (ho : OpR X (compareOp op) r) (ho' : OpR X (compareOp op') r') (hg : Op2 X.K T g r) (hg' : Op2 X.K T g' r') (ha : DE X T W a fa) (hb : DE X T W b fb) (hc : DE X T W c fc)
    (hm : lastMarks [op, op'] [b, c] = false := by with_unfolding_all rfl) : DE X T W (.Compare a [op, op'] [b, c] pos) (dCh g g' fa fb fc) := PE.imp (pe_chain ho ho' ha hb hc hm) fun σ H Q q => ch_use hg hg' q
theorem dt_ch {op op' : CmpOp} {g g' : D → D → Option D} {r r' : R2} (ho : OpR X (compareOp op) r) (ho' : OpR X (compareOp op') r') (hg : Op2 X.K T g r) (hg' : Op2 X.K T g' r') (ha : DE X T W a fa) (hb : DE X T W b fb) (hc : DE X T W c fc)
    (hm : lastMarks [op, op'] [b, c] = false := by with_unfolding_all rfl) : DT X T W (.Compare a [op, op'] [b, c] pos) (dTst (dCh g g' fa fb fc)) := PT.imp (pt_chain ho ho' ha hb hc hm) fun σ H Q q => ch_use hg hg' (tst_use q)
theorem de_lele (ha : DE X T W a fa) (hb : DE X T W b fb) (hc : DE X T W c fc) (hm : lastMarks [.LtE, .LtE] [b, c] = false := by with_unfolding_all rfl) : DE X T W (.Compare a [.LtE, .LtE] [b, c] pos) (dCh gLe gLe fa fb fc) := de_ch (OpR.of0 op_le) (OpR.of0 op_le) op2_le op2_le ha hb hc hm
theorem dt_lele (ha : DE X T W a fa) (hb : DE X T W b fb) (hc : DE X T W c fc) (hm : lastMarks [.LtE, .LtE] [b, c] = false := by with_unfolding_all rfl) : DT X T W (.Compare a [.LtE, .LtE] [b, c] pos) (dTst (dCh gLe gLe fa fb fc)) := dt_ch (OpR.of0 op_le) (OpR.of0 op_le) op2_le op2_le ha hb hc hm

/-! ### slices -/
def tDO (K : PySem.W.Frag) (T : Tab) (W : WX) (f : En → O (Option Int)) : TO := fun σ H Q => ∃ F ε, Ok K T F H σ ε ∧ Po K T W F H σ ε (f ε) (fun o _ _ H' => Q o H')
abbrev DO (X : Cx) (T : Tab) (W : WX) (e : Option Expr) (f : En → O (Option Int)) : Prop := PO X e (tDO X.K T W f)
theorem PO.imp {o : Option Expr} {t t' : TO} (h : PO X o t) (w : ∀ σ H Q, t' σ H Q → t σ H Q) : PO X o t' := ⟨fun pins s σ H Q I q => h.run pins s σ H Q I (w σ H Q q)⟩
def dON : En → O (Option Int) := fun ε => .ok none ε
def dOS (f : En → O R) : En → O (Option Int) := fun ε => (f ε).bind fun r ε1 => match res ε1 r with
  | some (.int i) => .ok (some i) ε1
  | _ => .bad
theorem do_none : DO X T W none dON := PO.imp po_none fun σ H Q ⟨F, ε, k, p⟩ => p F H k Ext.refl
theorem do_some (h : DE X T W e f) : DO X T W (some e) (dOS f) := by
  refine PO.imp (po_some h) fun σ H Q q => ?_
  obtain ⟨F, ε, k, p⟩ := q
  refine tD_use k Ext.refl p fun v F1 H1 r ε1 k1 x1 _ q1 n1 p1 => ?_
  split at p1
  · rename_i i e1
    exact ⟨i, rp_int.mp (res_rp k1 q1 e1), p1 F1 H1 k1 x1⟩
  · exact p1.elim
theorem tDO_use {α : Type} {K : PySem.W.Frag} {fo : En → O (Option Int)} {g : Option Int → En → O α} {F0 H0 F H : Hp} {σ : L2.St} {ε0 ε : En} {S : α → En → Hp → Hp → Prop} {Q : Option Int → Hp → Prop} (k : Ok K T F H σ ε) (x0 : Ext F0 H0 σ ε0 F H σ ε) (p : Po K T W F0 H0 σ ε0 ((fo ε).bind g) S)
    (h : ∀ b F1 H1 ε1, Ok K T F1 H1 σ ε1 → Ext F H σ ε F1 H1 σ ε1 → Ext F0 H0 σ ε0 F1 H1 σ ε1 → Po K T W F0 H0 σ ε0 (g b ε1) S → Q b H1) : tDO K T W fo σ H Q := by
  refine ⟨F, ε, k, ?_⟩
  cases e : fo ε with
  | bad => rw [e] at p; exact p
  | ok b ε1 =>
    rw [e] at p
    exact fun F1 H1 k1 x1 => h b F1 H1 ε1 k1 x1 (x0.trans x1) p
  | exn c ε1 =>
    rw [e] at p
    exact fun F1 H1 k1 x1 => p F1 H1 k1 (x0.trans x1)
/-- the items of xs[lo:hi] -/
def cut {α : Type} (xs : List α) (lo hi : Option Int) : List α := (xs.drop (HT.sIx xs.length 0 lo)).take (HT.sIx xs.length xs.length hi - HT.sIx xs.length 0 lo)
theorem rps_cut {K : PySem.W.Frag} {F : Hp} {ds : List D} {vs : List V} (h : Rps K T F ds vs) (lo hi : Option Int) : Rps K T F (cut ds lo hi) (cutV vs lo hi) := by
  unfold cut cutV
  rw [h.length]
  exact (h.drop _).take _
/-- t[lo:hi], the new tuple's object known -/
def rSlN (K : PySem.W.Frag) : V → Option Int → Option Int → Hp → VK → Prop := fun x lo hi H Q => ∃ a xs, x = .ref a ∧ SqT K H a xs ∧ ((cutV xs lo hi = xs → Q (.ref a) H) ∧ NewT Q H (cutV xs lo hi))
theorem sl_tupN : SlR X (rSlN X.K) := by
  intro pins s σ H x v vl vu lo hi sl Q I rx hs pl pu h
  obtain ⟨a, xs, rfl, hx, q1, q2⟩ := h
  by_cases hw : HT.sIx xs.length 0 lo = 0 ∧ HT.sIx xs.length xs.length hi = xs.length
  · refine sl_tupA pins s σ H _ v vl vu lo hi sl Q I rx hs pl pu ⟨a, xs, rfl, hx, fun _ => q1 ?_, fun z => absurd hw z⟩
    unfold cutV
    rw [hw.1, hw.2, Nat.sub_zero, List.drop_zero, List.take_length]
  · cases rx
    obtain ⟨its, r, ht, hz⟩ := I.tuple hx
    have hlen : its.toArray.size = xs.length := by rw [List.size_toArray]; exact r.length.symm
    refine ⟨"tuple", _, PyProof.Rows.slot_tuple_getitem.lookup, ht.typeIs, ?_⟩
    refine HT.getItem_tuple_cut ht hs pl pu (by rw [hlen]; exact hw) ?_ (by rw [hlen]; exact hz)
    rw [hlen]
    exact ⟨.ref s.heap.objs.size, _, I.laid (t' := s.toks) (fun b ob q => Heap.get?_push_of_some _ q) (Nat.le_refl _) (tup_new (Heap.get?_push_size _ rfl) rfl ((r.drop (HT.sIx xs.length 0 lo)).take (HT.sIx xs.length xs.length hi - HT.sIx xs.length 0 lo)) (Nat.le_trans (cutV_length xs lo hi) hz)), rfl, q2 _ _ (I.hok.fresh (Nat.le_refl _)) rfl⟩
def vSl (ε : En) (r : R) (lo hi : Option Int) : O R :=
  match res ε r with
  | some (.lst ds) => .ok (.new (.lst (cut ds lo hi))) ε
  | some (.tup ds) => .ok (.fz (.tup (cut ds lo hi))) ε
  | _ => .bad
def dSl (f : En → O R) (fl fh : En → O (Option Int)) : En → O R := fun ε => (f ε).bind fun r ε1 => (fl ε1).bind fun lo ε2 => (fh ε2).bind fun hi ε3 => vSl ε3 r lo hi
theorem de_slice {lo hi : Option Expr} {fl fh : En → O (Option Int)} {p2 : Pos} (he : DE X T W e f) (hl : DO X T W lo fl) (hh : DO X T W hi fh) : DE X T W (.Subscript e (.Slice lo hi none p2) pos) (dSl f fl fh) := by
  refine PE.imp (pe_slice (sl_list.or sl_tupN) he hl hh) fun σ H Q q => ?_
  obtain ⟨F, ε, k, p⟩ := q
  refine tD_use (g := fun r ε1 => (fl ε1).bind fun lo ε2 => (fh ε2).bind fun hi ε3 => vSl ε3 r lo hi) k Ext.refl p fun v F1 H1 r ε1 k1 _ x1 q1 n1 p1 => ?_
  refine tDO_use (g := fun lo ε2 => (fh ε2).bind fun hi ε3 => vSl ε3 r lo hi) k1 x1 p1 fun l F2 H2 ε2 k2 y2 x2 p2 => ?_
  refine tDO_use (g := fun hi ε3 => vSl ε3 r l hi) k2 x2 p2 fun h F3 H3 ε3 k3 y3 x3 p3 => ?_
  have q3 := (q1.ext y2).ext y3
  unfold vSl at p3
  cases e1 : res ε3 r with
  | none => simp only [e1] at p3; exact p3.elim
  | some d =>
    simp only [e1] at p3
    have a1 := res_rpi k3 q3 e1
    cases d with
    | lst ds =>
      obtain ⟨a, vs, rfl, hq, hr⟩ := a1
      exact .inl ⟨a, vs, rfl, hq, fun q hq => SE.new k3 x3 p3 hq (rpO_lst.mpr ⟨_, rfl, rps_cut hr l h⟩)⟩
    | tup ds =>
      obtain ⟨a, vs, rfl, hq, hr⟩ := a1
      refine .inr ⟨a, vs, rfl, (hq.mono k3.sub).t, fun z => ?_, fun q o hq ho => SE.newT k3 x3 p3 hq (rps_cut hr l h) ho⟩
      refine SE.fin k3 x3 p3 (rp_tup.mpr ⟨a, vs, rfl, hq, ?_⟩) (by simp [newA])
      have := rps_cut hr l h
      rw [z] at this
      exact this
    | _ => exact p3.elim
end

/-! ### writing an object of a slot -/
section
variable {K : PySem.W.Frag} {T : Tab} {W : WX} {F0 H0 F H : Hp} {σ0 σ : L2.St} {ε0 ε : En} {i : Nat} {d d' : D} {a : Addr} {o' : HO}
theorem own_write {b : Addr} (e : ε[i]? = some (.own d)) (h : OwnAt σ (ε.set i (.own d')) b) : OwnAt σ ε b := by
  obtain ⟨j, d1, ej, s⟩ := h
  by_cases hj : i = j
  · subst hj
    exact ⟨i, d, e, s⟩
  · rw [List.getElem?_set_ne hj] at ej
    exact ⟨j, d1, ej, s⟩
theorem ok_write (k : Ok K T F H σ ε) (e : ε[i]? = some (.own d)) (s : σ[i]? = some (some (.ref a))) (r : RpO K T F d' o') : Ok K T F (upd H a o') σ (ε.set i (.own d')) where
  sub := fun b u eb => by
    obtain ⟨a', o, s', f, _, _⟩ := k.own i d e
    rw [s] at s'; cases s'
    rw [upd_ne (ne_of_none eb f)]; exact k.sub _ _ eb
  len := by rw [List.length_set]; exact k.len
  fz := fun j d1 ej => by
    by_cases hj : i = j
    · subst hj
      rw [List.getElem?_set_self (List.getElem?_eq_some_iff.mp e).1] at ej; cases ej
    · rw [List.getElem?_set_ne hj] at ej
      exact k.fz j d1 ej
  own := fun j d1 ej => by
    obtain ⟨a', o, s', f, g, q⟩ := k.own i d e
    rw [s] at s'; cases s'
    by_cases hj : i = j
    · subst hj
      rw [List.getElem?_set_self (List.getElem?_eq_some_iff.mp e).1] at ej
      cases ej
      exact ⟨a, o', s, f, upd_same, r⟩
    · rw [List.getElem?_set_ne hj] at ej
      obtain ⟨b, ob, sb, fb, gb, qb⟩ := k.own j d1 ej
      refine ⟨b, ob, sb, fb, ?_, qb⟩
      rw [upd_ne (fun z => hj ?_)]
      · exact gb
      · subst z
        exact k.sep i j d d1 b e ej s sb
  sep := fun j1 j2 d1 d2 b e1 e2 s1 s2 => by
    have h1 : ∃ d, ε[j1]? = some (Sl.own d) := by
      by_cases hj : i = j1
      · subst hj; exact ⟨d, e⟩
      · rw [List.getElem?_set_ne hj] at e1; exact ⟨d1, e1⟩
    have h2 : ∃ d, ε[j2]? = some (Sl.own d) := by
      by_cases hj : i = j2
      · subst hj; exact ⟨d, e⟩
      · rw [List.getElem?_set_ne hj] at e2; exact ⟨d2, e2⟩
    obtain ⟨c1, f1⟩ := h1
    obtain ⟨c2, f2⟩ := h2
    exact k.sep j1 j2 c1 c2 b f1 f2 s1 s2
theorem Ext.write (x : Ext F0 H0 σ0 ε0 F H σ ε) (e : ε[i]? = some (.own d)) (s : σ[i]? = some (some (.ref a))) : Ext F0 H0 σ0 ε0 F (L2.upd H a o') σ (ε.set i (.own d')) where
  fs := x.fs
  hk := fun b u eb n => by
    rw [upd_ne (fun z => ?_)]
    · exact x.hk b u eb n
    · subst z
      rcases x.on b ⟨i, d, e, s⟩ with y | y
      · exact n y
      · rw [y] at eb; cases eb
  ht := fun b eb => by
    by_cases h : b = a
    · subst h; rw [upd_same] at eb; cases eb
    · rw [upd_ne h] at eb; exact x.ht b eb
  fn := x.fn
  on := fun b h => x.on b (own_write e h)
end

section
variable {X : Cx} {T : Tab} {W : WX} {e a b c : Expr} {es : List Expr} {f fa fb fc : En → O R} {fs : En → O (List R)} {pos p : Pos} {P : List Nat}
/-! ### x[k] = .. -/
def gSubL (i : Nat) (fi : En → O R) : D → En → Option En := fun d ε =>
  match ε[i]? with
  | some (.own _) => match fi ε with
    | .ok (.fz (.int k)) ε1 => match ε1[i]? with
      | some (.own (.lst ds)) => match ixN ds.length k with
        | some j => some (ε1.set i (.own (.lst (ds.set j d))))
        | none => none
      | _ => none
    | _ => none
  | _ => none
theorem dg_subL (i : Nat) {x : Str} {px : Pos} {fi : En → O R} (hx : PE X (.Name x px) (tVar i)) (hi : DE X T W e fi)
    (ha : ∀ v, assign (.Subscript (.Name x px) e pos) X.env v = (do
      let ov ← holding [v] (eval (.Name x px) X.env)
      let iv ← holding [v, ov] (eval e X.env)
      standAt pos
      holding [v, ov, iv] (setItem ov iv v)
      release [v, ov, iv] []) := by intro _; rfl) : DG X T [] (.Subscript (.Name x px) e pos) (gSubL i fi) := by
  refine PG.imp (pg_sub hx hi set_list ha) fun v σ H Q q => ?_
  obtain ⟨F, ε, d, ε', k, r, eg, q⟩ := q
  unfold gSubL at eg
  split at eg
  · rename_i d0 e0
    obtain ⟨a0, o0, s0, _⟩ := k.own i d0 e0
    refine ⟨.ref a0, s0, F, ε, k, ?_⟩
    split at eg
    · rename_i kk ε1 e1
      rw [e1]
      intro F1 H1 k1 x1 u hu hn
      have hu : Rp X.K T F1 (.int kk) u := hu
      split at eg
      · rename_i ds e2
        split at eg
        · rename_i j e3
          cases eg
          obtain ⟨a1, o1, s1, f1, g1, q1⟩ := k1.own i _ e2
          rw [s0] at s1; cases s1
          obtain ⟨vs, rfl, hr⟩ := rpO_lst.mp q1
          refine ⟨a0, vs, kk, j, rfl, rp_int.mp hu, g1, by rw [hr.length]; exact e3, ?_⟩
          exact q F1 _ σ (ok_write k1 e2 s0 (rpO_lst.mpr ⟨_, rfl, hr.set j (Rp.mono x1.fs _ _ r)⟩)) (x1.write e2 s0) (fun _ _ => rfl) rfl
        · cases eg
      · cases eg
    · cases eg
  · cases eg

/-! ### x op= e -/
def vAug (i : Nat) (g : D → D → Option D) (d0 : D) (ε : En) (r : R) : O Fl :=
  match res ε r with
  | some d1 => match g d0 d1 with
    | some d => if flat d0 then .ok .nx (ε.set i (.fz d)) else .bad
    | none => .bad
  | none => .bad
def dAug (i : Nat) (g : D → D → Option D) (f : En → O R) : En → O Fl := fun ε =>
  match ε[i]? with
  | some (.fz d0) => (f ε).bind fun r ε1 => vAug i g d0 ε1 r
  | _ => .bad
theorem ds_aug {i : Nat} {x : Str} {op : Operator} {g : D → D → Option D} {r : R2} {pos' : Pos} (hN : X.N.Nodup) (ho : PIp X op r) (hg : Op2 X.K T g r) (he : DE X T W e f) (hi : X.N[i]? = some x := by rfl) (hx : Loc X.env.scope x := by first | exact Or.inl rfl | exact Or.inr rfl) (hP : i ∉ P := by decide)
    (hf : X.fn x = true ∨ X.env.scope.names.lookup x = some .local := by first | exact .inl rfl | exact .inr rfl) : DS X T W P (.AugAssign (.Name x pos') op e pos) (dAug i g f) := by
  refine PS.imp (ps_aug hN hi hx he ho hf) fun D σ H q => ?_
  obtain ⟨F, ε, k, p⟩ := q
  unfold dAug at p
  split at p
  · rename_i d0 e0
    obtain ⟨v0, s0, r0⟩ := k.fz i d0 e0
    refine ⟨v0, s0, ?_⟩
    refine tD_useS (g := fun r ε1 => vAug i g d0 ε1 r) (S := SF X.K T H D) k Ext.refl (fun _ _ => rfl) p fun v F1 H1 r ε1 k1 x1 _ q1 n1 p1 => ?_
    unfold vAug at p1
    cases e1 : res ε1 r with
    | none => simp only [e1] at p1; exact p1.elim
    | some d1 =>
      simp only [e1] at p1
      cases e2 : g d0 d1 with
      | none => simp only [e2] at p1; exact p1.elim
      | some d =>
        simp only [e2] at p1
        by_cases hf0 : flat d0 = true
        · rw [if_pos hf0] at p1
          have a0 : Rp X.K T H1 d0 v0 := flat_rp hf0 r0
          have a1 := res_rp k1 q1 e1
          have hd := (hg d0 d1 d v0 v H1 (fun _ _ => True) e2 a0 a1 fun _ _ => trivial).1
          refine (hg d0 d1 d v0 v H1 _ e2 a0 a1 fun z hz => ?_).2
          have p1 : Ps X.K T W P F H σ ε (.ok .nx (ε1.set i (.fz d))) (SF X.K T H D) := p1
          exact p1 F1 H1 _ (ok_setF k1 (flat_rp hd hz)) x1.setF (p_set hP)
        · rw [if_neg hf0] at p1; exact p1.elim
  · exact p.elim

/-! ### a, b = x, y: two plain locals -/
def isFN : R → Bool
  | .at _ => false
  | _ => true
def vPar (i j : Nat) (ε : En) (rs : List R) : O Fl :=
  match rs with
  | [r1, r2] => if isFN r1 && isFN r2 then match vSto i ε r1 with
    | some ε1 => match vSto j ε1 r2 with
      | some ε2 => .ok .nx ε2
      | none => .bad
    | none => .bad
    else .bad
  | _ => .bad
def dPar (i j : Nat) (fs : En → O (List R)) : En → O Fl := fun ε => (fs ε).bind fun rs ε1 => vPar i j ε1 rs
theorem sto_fn {K : PySem.W.Frag} {F0 H0 F H : Hp} {σ0 σ : L2.St} {ε0 ε ε' : En} {i : Nat} {r : R} {v : V} (hr : isFN r = true) (x : Ext F0 H0 σ0 ε0 F H σ ε) (k : Ok K T F H σ ε) (h : RpR K T F H σ ε r v) (hn : ∀ a ∈ newA r v, H0 a = none) (e : vSto i ε r = some ε') : Ok K T F H (σ.set i (some v)) ε' ∧ Ext F0 H0 σ0 ε0 F H (σ.set i (some v)) ε' := by
  cases r with
  | «at» j => cases hr
  | fz d => cases e; exact ⟨ok_setF k h, x.setF⟩
  | new d =>
    cases e
    obtain ⟨a, o, rfl, f, g, q, n⟩ := h
    exact ⟨ok_setN k f g q n, x.setN (hn a (by simp [newA]))⟩
theorem rpR_sto {K : PySem.W.Frag} {F H : Hp} {σ : L2.St} {ε ε1 : En} {i : Nat} {r1 r2 : R} {v w : V} (h1 : RpR K T F H σ ε r1 v) (h2 : RpR K T F H σ ε r2 w) (f1 : isFN r1 = true) (f2 : isFN r2 = true) (nd : ∀ a ∈ newA r2 w, a ∉ newA r1 v) (e : vSto i ε r1 = some ε1) : RpR K T F H (σ.set i (some v)) ε1 r2 w := by
  cases r2 with
  | «at» i => cases f2
  | fz d => exact h2
  | new d =>
    obtain ⟨a, o, rfl, f, g, q, n⟩ := h2
    refine ⟨a, o, rfl, f, g, q, fun z => ?_⟩
    cases r1 with
    | «at» i => cases f1
    | fz d1 => cases e; exact n (own_setF z)
    | new d1 =>
      cases e
      obtain ⟨b, ob, rfl, _⟩ := h1
      rcases own_setN z with y | y
      · exact n y
      · exact nd a (by simp [newA]) (by rw [y]; simp [newA])
theorem ds_par {i j : Nat} {x y : Str} {px py pt : Pos} {kt k2 pt2} (hc : X.calm = true) (hN : X.N.Nodup) (ha : DA X T W [a, b] fs) (hw : swappedStores [.Tuple [.Name x px, .Name y py] kt pt] (.Tuple [a, b] k2 pt2) X.env = pure (some [x, y]))
    (hi : X.N[i]? = some x := by rfl) (hj : X.N[j]? = some y := by rfl) (hij : i ≠ j := by decide) (hx : X.env.scope.names.lookup x = some .local := by rfl) (hy : X.env.scope.names.lookup y = some .local := by rfl) (hPi : i ∉ P := by decide) (hPj : j ∉ P := by decide)
    (hs : swapsWithSole [.Tuple [.Name x px, .Name y py] kt pt] (.Tuple [a, b] k2 pt2) pos.line X.env = pure false := by rfl) :
    DS X T W P (.Assign [.Tuple [.Name x px, .Name y py] kt pt] (.Tuple [a, b] k2 pt2) pos) (dPar i j fs) := by
  refine PS.imp (ps_par hc hN hi hj hij hx hy ha hw hs) fun D σ H q => ?_
  obtain ⟨F, ε, k, p⟩ := q
  refine tDA_useS (g := fun rs ε1 => vPar i j ε1 rs) (S := SF X.K T H D) k Ext.refl (fun _ _ => rfl) p fun vs F1 H1 rs ε1 k1 x1 _ q1 n1 nd p1 => ?_
  unfold vPar at p1
  split at p1
  · rename_i r1 r2
    obtain ⟨v, w, rfl, h1, h2⟩ := q1
    obtain ⟨w, w0, rfl, h2, h3⟩ := h2
    have h3 : w0 = [] := h3
    subst h3
    refine ⟨v, w, rfl, ?_⟩
    by_cases hfn : (isFN r1 && isFN r2) = true
    · rw [if_pos hfn] at p1
      rw [Bool.and_eq_true] at hfn
      cases e1 : vSto i ε1 r1 with
      | none => simp only [e1] at p1; exact p1.elim
      | some ε2 =>
        simp only [e1] at p1
        cases e2 : vSto j ε2 r2 with
        | none => simp only [e2] at p1; exact p1.elim
        | some ε3 =>
          simp only [e2] at p1
          have nda : ∀ a ∈ newA r2 w, a ∉ newA r1 v := fun a ha hb => by
            have nd' : (newA r1 v ++ (newA r2 w ++ [])).Nodup := nd
            rw [List.append_nil] at nd'
            exact (List.nodup_append.mp nd').2.2 a hb a ha rfl
          obtain ⟨k2, x2⟩ := sto_fn (i := i) hfn.1 x1 k1 h1 (fun a ha => n1 a (List.mem_append_left _ ha)) e1
          have h2' := rpR_sto (i := i) h1 h2 hfn.1 hfn.2 nda e1
          obtain ⟨F3, k3, x3, s3⟩ := sto_ok (i := j) x2 k2 h2' (fun a ha => n1 a (List.mem_append_right _ (List.mem_append_left _ ha))) e2
          refine p1 F3 H1 _ k3 x3 fun l hl => ?_
          rw [List.getElem?_set_ne (fun z => hPj (by rw [z]; exact hl)), List.getElem?_set_ne (fun z => hPi (by rw [z]; exact hl))]
    · rw [if_neg hfn] at p1; exact p1.elim
  · exact p1.elim
end
end DL

/-! DL14: methods of own objects; built-in functions -/
namespace DL
open PySem PySem.Spec PyProof.Rows L2

section
variable {X : Cx} {T : Tab} {W : WX} {e a b c : Expr} {es : List Expr} {f fa fb fc : En → O R} {fs : En → O (List R)} {pos p : Pos} {P : List Nat}
/-! ### x.m(..), x a slot's own object -/
def isL : D → Bool
  | .lst _ => true
  | _ => false
def isDi : D → Bool
  | .dK _ _ => true
  | .dT _ _ => true
  | _ => false
def MtOk (K : PySem.W.Frag) (T : Tab) (M : D → List D → Option (D × D)) (r : V → List V → Hp → VK → Prop) : Prop :=
  ∀ d ds a d' p o vs F H Q, M d ds = some (a, d') → H p = some o → RpO K T F d o → Rps K T F ds vs → Same F H → (∀ v o', Rp K T F a v → RpO K T F d' o' → Q v (upd H p o')) → r (.ref p) vs H Q
def vM (i : Nat) (M : D → List D → Option (D × D)) (ε : En) (rs : List R) : O R :=
  match frzs ε rs with
  | some (ds, ε1) => match ε1[i]? with
    | some (.own d) => match M d ds with
      | some (a, d') => .ok (.fz a) (ε1.set i (.own d'))
      | none => .bad
    | _ => .bad
  | none => .bad
def dM (i : Nat) (kd : D → Bool) (M : D → List D → Option (D × D)) (fs : En → O (List R)) : En → O R := fun ε =>
  match ε[i]? with
  | some (.own d) => if kd d then (fs ε).bind fun rs ε1 => vM i M ε1 rs else .bad
  | _ => .bad
theorem vM_use {K : PySem.W.Frag} {i : Nat} {M : D → List D → Option (D × D)} {r : V → List V → Hp → VK → Prop} (hM : MtOk K T M r) {σ : L2.St} {F0 H0 F H : Hp} {ε0 ε : En} {Q : VK} {rs : List R} {vs : List V} {a0 : Addr} (k : Ok K T F H σ ε) (x : Ext F0 H0 σ ε0 F H σ ε) (q : RpRs K T F H σ ε rs vs) (n : ∀ a ∈ newAs rs vs, H0 a = none) (nd : (newAs rs vs).Nodup)
    (s0 : σ[i]? = some (some (.ref a0))) (p : Po K T W F0 H0 σ ε0 (vM i M ε rs) (SE K T H0 σ Q)) : r (.ref a0) vs H Q := by
  unfold vM at p
  cases e1 : frzs ε rs with
  | none => simp only [e1] at p; exact p.elim
  | some z =>
    obtain ⟨ds, ε1⟩ := z
    simp only [e1] at p
    obtain ⟨F1, k1, x1, r1, s1⟩ := frzs_ok x k q n nd e1
    cases e2 : ε1[i]? with
    | none => simp only [e2] at p; exact p.elim
    | some u =>
      cases u with
      | no => simp only [e2] at p; exact p.elim
      | fz d => simp only [e2] at p; exact p.elim
      | own d =>
        simp only [e2] at p
        cases e3 : M d ds with
        | none => simp only [e3] at p; exact p.elim
        | some y =>
          obtain ⟨an, d'⟩ := y
          simp only [e3] at p
          obtain ⟨a1, o1, sa, f1, g1, q1⟩ := k1.own i d e2
          rw [s0] at sa; cases sa
          refine hM d ds an d' a0 o1 vs F1 H Q e3 g1 q1 r1 k1.sub fun v o' hv ho => ?_
          exact p F1 _ (ok_write k1 e2 s0 ho) (x1.write e2 s0) v hv (by simp [newA])
theorem tyL {K : PySem.W.Frag} {F H : Hp} {d : D} {o : HO} {a : Addr} (h : isL d = true) (g : H a = some o) (q : RpO K T F d o) : tyV K "list" (.ref a) H := by
  cases d with
  | lst ds =>
    obtain ⟨vs, rfl, _⟩ := rpO_lst.mp q
    exact .inl ⟨rfl, vs, .inl (.inl g)⟩
  | _ => cases h
theorem tyDi {K : PySem.W.Frag} {F H : Hp} {d : D} {o : HO} {a : Addr} (h : isDi d = true) (g : H a = some o) (q : RpO K T F d o) : tyV K "dict" (.ref a) H := by
  cases d with
  | dK ks ds =>
    obtain ⟨vs, rfl, _⟩ := rpO_dK.mp q
    exact .inr (.inr (.inl ⟨rfl, .inl ⟨_, g⟩⟩))
  | dT ks ds =>
    obtain ⟨vs, rfl, _⟩ := rpO_dT.mp q
    exact .inr (.inr (.inl ⟨rfl, .inr ⟨_, g⟩⟩))
  | _ => cases h
theorem de_m {i : Nat} {x : Str} {px apos : Pos} {name : Str} {Ty id : String} {kd : D → Bool} {M : D → List D → Option (D × D)} {r : V → List V → Hp → VK → Prop} (pa : PlainAttrs Ty) (slot : Slot Ty name id) (hty : typeOf (.builtin id) = pure (.type "method_descriptor")) (hm : MtR X id r) (hM : MtOk X.K T M r)
    (hT : ∀ {F H : Hp} {d : D} {o : HO} {a : Addr}, kd d = true → H a = some o → RpO X.K T F d o → tyV X.K Ty (.ref a) H) (hx : PE X (.Name x px) (tVar i)) (ha : DA X T W (e :: es) fs)
    (hbase : attributeBase (.Name x px) name X.env (eval (.Name x px) X.env) = eval (.Name x px) X.env := by rfl)
    (hfew : ((backTo pos (starEach (e :: es) X.env)).all (fun x => !x.1) && (backToKw pos (keywordEach [] X.env)).all (fun x => x.1.isSome)
      && decide ((e :: es).length + ([] : List Keyword).length + (if ([] : List Keyword).isEmpty then 0 else 1) < 30)) = true := by rfl)
    (hline : (apos.endLine == pos.line) = true := by rfl) (hs : starEach (e :: es) X.env = (false, eval e X.env) :: starEach es X.env := by rfl) (hplain : (backTo pos (starEach es X.env)).any (·.1) = false := by rfl) :
    DE X T W (.Call (.Attribute (.Name x px) name apos) (e :: es) [] pos) (dM i kd M fs) := by
  refine PE.imp (pe_bm pa slot hty hm hx ha hbase hfew hline hs hplain) fun σ H Q q => ?_
  obtain ⟨F, ε, k, p⟩ := q
  unfold dM at p
  split at p
  · rename_i d0 e0
    by_cases hk : kd d0 = true
    · rw [if_pos hk] at p
      obtain ⟨a0, o0, s0, _, g0, q0⟩ := k.own i d0 e0
      refine ⟨.ref a0, s0, hT hk g0 q0, ?_⟩
      exact tDA_use (g := fun rs ε1 => vM i M ε1 rs) k Ext.refl p fun vs F1 H1 rs ε1 k1 _ x1 q1 n1 nd p1 => vM_use hM k1 x1 q1 n1 nd s0 p1
    · rw [if_neg hk] at p; exact p.elim
  · exact p.elim
theorem de_m0 {i : Nat} {x : Str} {px apos : Pos} {name : Str} {Ty id : String} {kd : D → Bool} {M : D → List D → Option (D × D)} {r : V → List V → Hp → VK → Prop} (pa : PlainAttrs Ty) (slot : Slot Ty name id) (hty : typeOf (.builtin id) = pure (.type "method_descriptor")) (hm : MtR X id r) (hM : MtOk X.K T M r)
    (hT : ∀ {F H : Hp} {d : D} {o : HO} {a : Addr}, kd d = true → H a = some o → RpO X.K T F d o → tyV X.K Ty (.ref a) H) (hx : PE X (.Name x px) (tVar i))
    (hbase : attributeBase (.Name x px) name X.env (eval (.Name x px) X.env) = eval (.Name x px) X.env := by rfl) (hline : (apos.endLine == pos.line) = true := by rfl) :
    DE X T W (.Call (.Attribute (.Name x px) name apos) [] [] pos) (dM i kd M dNil) := by
  refine PE.imp (pe_bm0 pa slot hty hm hx hbase hline) fun σ H Q q => ?_
  obtain ⟨F, ε, k, p⟩ := q
  unfold dM at p
  split at p
  · rename_i d0 e0
    by_cases hk : kd d0 = true
    · rw [if_pos hk] at p
      obtain ⟨a0, o0, s0, _, g0, q0⟩ := k.own i d0 e0
      refine ⟨.ref a0, s0, hT hk g0 q0, ?_⟩
      have p : Po X.K T W F H σ ε (vM i M ε []) (SE X.K T H σ Q) := p
      exact vM_use hM (rs := []) (vs := []) k Ext.refl rfl (by simp [newAs]) (by simp [newAs]) s0 p
    · rw [if_neg hk] at p; exact p.elim
  · exact p.elim
def mApp : D → List D → Option (D × D)
  | .lst ds, [d] => if decide (ds.length < 1000000) then some (.non, .lst (ds ++ [d])) else none
  | _, _ => none
theorem mt_app {K : PySem.W.Frag} : MtOk K T mApp rAppend := fun d ds a d' p o vs F H Q e g q r s h => by
  unfold mApp at e
  split at e
  · rename_i es y
    split at e
    · rename_i hl
      cases e
      obtain ⟨us, rfl, hu⟩ := rpO_lst.mp q
      obtain ⟨v, w, rfl, h1, h2⟩ := rps_cons.mp r
      rw [rps_nil.mp h2]
      exact ⟨p, us, v, rfl, rfl, g, by rw [hu.length]; exact line1M' (of_decide_eq_true hl), h _ _ (rp_non.mpr rfl) (rpO_lst.mpr ⟨_, rfl, hu.append (Rps.one h1)⟩)⟩
    · cases e
  · cases e
def mPopAt : D → List D → Option (D × D)
  | .lst ds, [.int i] => if smallI i then match seqIndex? i ds.length with
    | some k => match ds[k]? with
      | some d => some (d, .lst (ds.eraseIdx k))
      | none => none
    | none => none
    else none
  | _, _ => none
theorem mt_pAt {K : PySem.W.Frag} : MtOk K T mPopAt rPopAt := fun d ds a d' p o vs F H Q e g q r s h => by
  unfold mPopAt at e
  split at e
  · rename_i es i
    by_cases hi : smallI i = true
    · rw [if_pos hi] at e
      have hi := smallI_ok hi
      split at e
      · rename_i k hk
        split at e
        · rename_i y hy
          cases e
          obtain ⟨us, rfl, hu⟩ := rpO_lst.mp q
          obtain ⟨v, w, rfl, h1, h2⟩ := rps_cons.mp r
          rw [rps_nil.mp h2, rp_int.mp h1]
          obtain ⟨u, eu, ru⟩ := hu.get hy
          exact ⟨p, us, i, k, u, rfl, rfl, g, by omega, by omega, by rw [hu.length]; exact hk, eu, h _ _ ru (rpO_lst.mpr ⟨_, rfl, hu.eraseIdx k⟩)⟩
        · cases e
      · cases e
    · rw [if_neg hi] at e; cases e
  · cases e
def mPop : D → List D → Option (D × D)
  | .lst ds, [] => match ds[ds.length - 1]? with
    | some d => some (d, .lst (ds.take (ds.length - 1)))
    | none => none
  | _, _ => none
theorem mt_p0 {K : PySem.W.Frag} : MtOk K T mPop rPop := fun d ds a d' p o vs F H Q e g q r s h => by
  unfold mPop at e
  split at e
  · rename_i es
    split at e
    · rename_i y hy
      cases e
      obtain ⟨us, rfl, hu⟩ := rpO_lst.mp q
      rw [rps_nil.mp r]
      obtain ⟨u, eu, ru⟩ := hu.get hy
      refine ⟨p, us, u, rfl, rfl, g, by rw [hu.length]; exact eu, h _ _ ru (rpO_lst.mpr ⟨_, rfl, ?_⟩)⟩
      rw [List.dropLast_eq_take, hu.length]
      exact hu.take _
    · cases e
  · cases e

/-! ### t.index(k), ints -/
def gIdx : List D → D → Option D
  | ds, .int k => match toIs ds with
    | some ns => if ns.contains k then some (.int (ns.idxOf k : Nat)) else none
    | none => none
  | _, _ => none
def vTIdx (ε : En) (r : R) (rs : List R) : O R :=
  match res ε r, ress ε rs with
  | some (.tup ds), some [d] => match gIdx ds d with
    | some z => .ok (.fz z) ε
    | none => .bad
  | _, _ => .bad
def isT (ε : En) (r : R) : Bool :=
  match res ε r with
  | some (.tup _) => true
  | _ => false
def dTIdx (f : En → O R) (fs : En → O (List R)) : En → O R := fun ε => (f ε).bind fun r ε1 => if isT ε1 r then (fs ε1).bind fun rs ε2 => vTIdx ε2 r rs else .bad
theorem sqN_ty {pins : List (Addr × Obj)} {σ : L2.St} {H : Hp} {s : Shared} {a : Addr} {vs : List V} (I : Inv X pins σ H s) (q : SqN X.K H a vs) : s.TypeIs (.ref a) "tuple" ∧ ∀ b, Value.ref a = .ref b → ∃ ob, s.heap.get? b = some ob ∧ ob.dict = none := by
  rcases q with ⟨o, h, hd⟩ | ⟨o, its, n, hk, hd, hc, hs, hz, r⟩
  · obtain ⟨e, _, its, _, o', e', hc, _⟩ := (show ObjOk X.prog X.w H s.heap a (.frz o (.tup vs)) from I.hok a _ h)
    refine ⟨⟨o', e', hc⟩, fun b eb => ?_⟩
    cases eb
    exact ⟨o, e, hd⟩
  · refine ⟨⟨o, I.kIn a o hk, hc⟩, fun b eb => ?_⟩
    cases eb
    exact ⟨o, I.kIn _ o hk, hd⟩
def rTIdx (K : PySem.W.Frag) : V → List V → Hp → VK → Prop := fun x xs H Q => ∃ (a : Addr) (ns : List Int) (k : Int), x = .ref a ∧ xs = [.int k] ∧ SqT K H a (ns.map V.int) ∧ k ∈ ns ∧ Q (.int (ns.idxOf k : Nat)) H
theorem mt_tIdx : MtR X "tuple.index" (rTIdx X.K) := by
  intro pins s σ H x xs v us Q I rx rs h
  obtain ⟨a, ns, k, rfl, rfl, hq, hk, q⟩ := h
  cases rx
  obtain ⟨u, rfl, ru⟩ := rs.one
  obtain ⟨t, rfl⟩ := ru
  obtain ⟨its, r, pl, hz⟩ := I.tuple hq
  exact SeqAt.tuple_index_ints (show s.heap.IsTuple a its.toArray from pl) r.ints hk ⟨.int (ns.idxOf k : Nat), H, I.tok _, ⟨_, rfl⟩, q⟩
theorem pe_tIdx {o : Expr} {to : TE} {t : TA} {apos : Pos} (ho : PE X o to) (ha : PA X (e :: es) t) (hbase : attributeBase o "index" X.env (eval o X.env) = eval o X.env := by rfl)
    (hfew : ((backTo pos (starEach (e :: es) X.env)).all (fun x => !x.1) && (backToKw pos (keywordEach [] X.env)).all (fun x => x.1.isSome)
      && decide ((e :: es).length + ([] : List Keyword).length + (if ([] : List Keyword).isEmpty then 0 else 1) < 30)) = true := by rfl)
    (hline : (apos.endLine == pos.line) = true := by rfl) (hs : starEach (e :: es) X.env = (false, eval e X.env) :: starEach es X.env := by rfl) (hplain : (backTo pos (starEach es X.env)).any (·.1) = false := by rfl) :
    PE X (.Call (.Attribute o "index" apos) (e :: es) [] pos) (fun σ H Q => to σ H fun x H1 => (∃ a vs, x = .ref a ∧ SqN X.K H1 a vs) ∧ t σ H1 fun xs H2 => rTIdx X.K x xs H2 Q) := by
  refine ⟨fun pins s σ H Q I h => ?_⟩
  refine wpAny_Call_method_late hbase hfew hline rfl (thn (ho.run pins s σ H _ I h) fun v s1 ⟨x, H1, I1, r1, ty, q1⟩ => ?_)
  obtain ⟨a, vs, rfl, hq⟩ := ty
  cases r1
  obtain ⟨h1, h2⟩ := sqN_ty I1 hq
  refine ⟨"tuple", "tuple.index", F.plainAttrs_tuple, F.slot_tuple_index, F.type_tuple_index, h1, h2, ?_⟩
  have hA := ha.run pos pins s1 σ H1 _ I1 q1
  rw [hs] at hA ⊢
  refine Calls.callWith_builtin (by show (false || (backTo pos (starEach es X.env)).any (·.1)) = false; rw [hplain] <;> rfl) (Calls.evalArgs_plain ?_)
  exact thn hA fun us s2 ⟨ws, H2, I2, r2, q2⟩ => mt_tIdx pins s2 σ H2 (.ref a) ws (.ref a) us Q I2 rfl r2 q2
theorem de_tIdx {o : Expr} {apos : Pos} (ho : DE X T W o f) (ha : DA X T W (e :: es) fs) (hbase : attributeBase o "index" X.env (eval o X.env) = eval o X.env := by rfl)
    (hfew : ((backTo pos (starEach (e :: es) X.env)).all (fun x => !x.1) && (backToKw pos (keywordEach [] X.env)).all (fun x => x.1.isSome)
      && decide ((e :: es).length + ([] : List Keyword).length + (if ([] : List Keyword).isEmpty then 0 else 1) < 30)) = true := by rfl)
    (hline : (apos.endLine == pos.line) = true := by rfl) (hs : starEach (e :: es) X.env = (false, eval e X.env) :: starEach es X.env := by rfl) (hplain : (backTo pos (starEach es X.env)).any (·.1) = false := by rfl) :
    DE X T W (.Call (.Attribute o "index" apos) (e :: es) [] pos) (dTIdx f fs) := by
  refine PE.imp (pe_tIdx ho ha hbase hfew hline hs hplain) fun σ H Q q => ?_
  obtain ⟨F, ε, k, p⟩ := q
  refine tD_use (g := fun r ε1 => if isT ε1 r then (fs ε1).bind fun rs ε2 => vTIdx ε2 r rs else .bad) k Ext.refl p fun v F1 H1 r ε1 k1 _ x1 q1 n1 p1 => ?_
  by_cases hT : isT ε1 r = true
  · rw [if_pos hT] at p1
    have ht : ∃ ds, res ε1 r = some (.tup ds) := by
      unfold isT at hT
      split at hT
      · rename_i ds e; exact ⟨ds, e⟩
      · cases hT
    obtain ⟨ds0, e0⟩ := ht
    obtain ⟨a0, vs0, rfl, hq0, _⟩ := res_rpi k1 q1 e0
    refine ⟨⟨a0, vs0, rfl, hq0.mono k1.sub⟩, ?_⟩
    refine tDA_use (g := fun rs ε2 => vTIdx ε2 r rs) k1 x1 p1 fun vs F2 H2 rs ε2 k2 y2 x2 q2 n2 nd p2 => ?_
    unfold vTIdx at p2
    split at p2
    · rename_i ds d e1 e2
      cases e3 : gIdx ds d with
      | none => simp only [e3] at p2; exact p2.elim
      | some z =>
        simp only [e3] at p2
        obtain ⟨a1, vs1, ev, hq1, hr1⟩ := res_rpi k2 (q1.ext y2) e1
        obtain ⟨w, rfl, hw⟩ := rpis1 (ress_rpis k2 q2 e2)
        unfold gIdx at e3
        split at e3
        · rename_i kk
          split at e3
          · rename_i ns hns
            split at e3
            · rename_i hc
              cases e3
              rw [rps_ints hns hr1] at hq1
              exact ⟨a1, ns, kk, ev, by rw [rpi_int hw], (hq1.mono k2.sub).t, by simpa using hc, SE.flat (H' := H2) k2 x2 p2 rfl (rp_int.mpr rfl)⟩
            · cases e3
          · cases e3
        · cases e3
    · exact p2.elim
  · rw [if_neg hT] at p1; exact p1.elim
end
end DL

/-! DL15: built-in functions -/
namespace DL
open PySem PySem.Spec PyProof.Rows L2

section
variable {X : Cx} {T : Tab} {W : WX} {e a b c : Expr} {es : List Expr} {f fa fb fc : En → O R} {fs : En → O (List R)} {pos p : Pos} {P : List Nat}
theorem nw_lst {K : PySem.W.Frag} {F H : Hp} {ds : List D} {Q : VK} (q : An.ok K T F H (.nw (.lst ds)) Q) : ∀ (p : Addr) (vs : List V), H p = none → Rps K T F ds vs → Q (.ref p) (upd H p (.lst vs)) := fun p vs hp r => q p _ hp (rpO_lst.mpr ⟨vs, rfl, r⟩)

/-! ### len -/
def gLen : List D → Option An
  | [.lst ds] => some (.fz (.int (ds.length : Nat)))
  | [.tup ds] => some (.fz (.int (ds.length : Nat)))
  | [.str x] => if x.length ≤ big then some (.fz (.int (x.length : Nat))) else none
  | _ => none
def rLen (K : PySem.W.Frag) : List V → Hp → VK → Prop := fun xs H Q => ∃ x n, xs = [x] ∧ LenV K x H n ∧ Q (.int n) H
theorem fn_len {K : PySem.W.Frag} : FnA K T gLen (rLen K) := fun ds a vs F H Q e r s q => by
  unfold gLen at e
  split at e
  · cases e
    obtain ⟨v, rfl, b, us, rfl, hq, hr⟩ := rpis1 r
    exact ⟨_, _, rfl, .inl ⟨us, hq, rfl⟩, by rw [hr.length]; exact q _ (rp_int.mpr rfl)⟩
  · cases e
    obtain ⟨v, rfl, b, us, rfl, hq, hr⟩ := rpis1 r
    exact ⟨_, _, rfl, .inr ⟨us, (hq.mono s).t, rfl⟩, by rw [hr.length]; exact q _ (rp_int.mpr rfl)⟩
  · split at e
    · rename_i hl
      cases e
      obtain ⟨v, rfl, hv⟩ := rpis1 r
      rw [rpi_str hv]
      exact ⟨_, _, rfl, ⟨bigLine hl, rfl⟩, q _ (rp_int.mpr rfl)⟩
    · cases e
  · cases e

/-! ### isinstance, built-in types -/
def kn : D → Nat
  | .non => 0 | .bl _ => 1 | .int _ => 2 | .str _ => 3 | .lst _ => 4 | .tup _ => 5 | .dK _ _ => 6 | .dT _ _ => 6
  | _ => 9
def tn (k : Nat) : String := if k = 0 then "NoneType" else if k = 1 then "bool" else if k = 2 then "int" else if k = 3 then "str" else if k = 4 then "list" else if k = 5 then "tuple" else "dict"
def isTy (k : Nat) (n : String) : Option Bool :=
  if k ≤ 6 then
    if n = "int" then some (k == 1 || k == 2) else if n = "bool" then some (k == 1) else if n = "str" then some (k == 3) else if n = "list" then some (k == 4) else if n = "tuple" then some (k == 5) else if n = "dict" then some (k == 6) else none
  else none
def gIsi : List D → Option An
  | [d, .ty n] => match isTy (kn d) n with
    | some b => some (.fz (.bl b))
    | none => none
  | _ => none
theorem isTy_kit {k : Nat} {n : String} {b : Bool} (h : isTy k n = some b) : k ≤ 6 ∧ kitB (tn k) n = some b := by
  unfold isTy at h
  split at h
  · rename_i hk
    refine ⟨hk, ?_⟩
    have hk' : k = 0 ∨ k = 1 ∨ k = 2 ∨ k = 3 ∨ k = 4 ∨ k = 5 ∨ k = 6 := by omega
    split at h
    · rename_i hn; subst hn; cases h
      rcases hk' with q | q | q | q | q | q | q <;> subst q <;> decide +kernel
    · split at h
      · rename_i hn; subst hn; cases h
        rcases hk' with q | q | q | q | q | q | q <;> subst q <;> decide +kernel
      · split at h
        · rename_i hn; subst hn; cases h
          rcases hk' with q | q | q | q | q | q | q <;> subst q <;> decide +kernel
        · split at h
          · rename_i hn; subst hn; cases h
            rcases hk' with q | q | q | q | q | q | q <;> subst q <;> decide +kernel
          · split at h
            · rename_i hn; subst hn; cases h
              rcases hk' with q | q | q | q | q | q | q <;> subst q <;> decide +kernel
            · split at h
              · rename_i hn; subst hn; cases h
                rcases hk' with q | q | q | q | q | q | q <;> subst q <;> decide +kernel
              · cases h
  · cases h
theorem sqL_ty {K : PySem.W.Frag} {H : Hp} {a : Addr} {vs : List V} (q : SqL K H a vs) : TyX K H (.ref a) (.type "list") := by
  rcases q with (h | ⟨o, h⟩) | ⟨o, its, n, hk, hc, _⟩
  · exact .base (.lst h)
  · exact .base (.frz h)
  · exact .kList hk hc
theorem sqN_tyX {K : PySem.W.Frag} {H : Hp} {a : Addr} {vs : List V} (q : SqN K H a vs) : TyX K H (.ref a) (.type "tuple") := by
  rcases q with ⟨o, h, _⟩ | ⟨o, its, n, hk, _, hc, _⟩
  · exact .fTuple h
  · exact .kTuple hk hc
theorem kn_ty {K : PySem.W.Frag} {F H : Hp} (s : Same F H) {d : D} {v : V} (hk : kn d ≤ 5) (r : RpI K T F H d v) : TyX K H v (.type (tn (kn d))) := by
  cases d with
  | non => rw [show v = .non from r]; exact .base .non
  | bl b => rw [show v = .bl b from r]; exact .base (.bl b)
  | int b => rw [show v = .int b from r]; exact .base (.int b)
  | str b => rw [show v = .str b from r]; exact .base (.str b)
  | lst ds => obtain ⟨a, vs, rfl, q, _⟩ := r; exact sqL_ty q
  | tup ds => obtain ⟨a, vs, rfl, q, _⟩ := r; exact sqN_tyX (q.mono s)
  | dK ks ds => exact absurd hk (by simp [kn])
  | dT ks ds => exact absurd hk (by simp [kn])
  | ins c fs ds => exact absurd hk (by simp [kn])
  | dF ks ds => exact absurd hk (by simp [kn])
  | fl ds => exact absurd hk (by simp [kn])
  | fn n => exact absurd hk (by simp [kn])
  | ty n => exact absurd hk (by simp [kn])
theorem kn_ty6 {K : PySem.W.Frag} {F H : Hp} (s : Same F H) {d : D} {v : V} (hk : kn d ≤ 6) (r : RpI K T F H d v) (hno : ∀ (a : Addr) (o : Obj) (u : HO), v = .ref a → H a = some (.frz o u) → ∃ vs, u = .tup vs ∨ u = .lst vs) : TyX K H v (.type (tn (kn d))) := by
  by_cases h5 : kn d ≤ 5
  · exact kn_ty s h5 r
  · cases d with
    | dK ks ds =>
      obtain ⟨a, vs, rfl, q, _⟩ := r
      rcases q with q | ⟨o, q⟩
      · exact .base (.dK q)
      · exact .fDict q
    | dT ks ds =>
      obtain ⟨a, vs, rfl, q, _⟩ := r
      rcases q with q | ⟨o, q⟩
      · exact .base (.dT q)
      · obtain ⟨vs, h | h⟩ := hno a o _ rfl q <;> cases h
    | non => exact absurd (by simp [kn]) h5
    | bl b => exact absurd (by simp [kn]) h5
    | int b => exact absurd (by simp [kn]) h5
    | str b => exact absurd (by simp [kn]) h5
    | lst ds => exact absurd (by simp [kn]) h5
    | tup ds => exact absurd (by simp [kn]) h5
    | ins c fs ds => exact absurd hk (by simp [kn])
    | dF ks ds => exact absurd hk (by simp [kn])
    | fl ds => exact absurd hk (by simp [kn])
    | fn n => exact absurd hk (by simp [kn])
    | ty n => exact absurd hk (by simp [kn])
def gIsi5 : List D → Option An
  | [d, .ty n] => if kn d ≤ 5 then match isTy (kn d) n with
    | some b => some (.fz (.bl b))
    | none => none
    else none
  | _ => none
theorem fn_isi {K : PySem.W.Frag} : FnA K T gIsi5 (rIsi K) := fun ds a vs F H Q e r s q => by
  unfold gIsi5 at e
  split at e
  · rename_i d n
    obtain ⟨v, v2, rfl, h1, h2⟩ := rpis2 r
    split at e
    · rename_i hk
      split at e
      · rename_i b hb
        cases e
        rw [show v2 = .ty n from h2]
        exact ⟨v, .ty n, .type (tn (kn d)), .type n, b, rfl, .ty n, kn_ty s hk h1, kit_ty (isTy_kit hb).2, q _ (rp_bl.mpr rfl)⟩
      · cases e
    · cases e
  · cases e

/-! ### all, any -/
def gAll : List D → Option An
  | [.lst ds] => (toBs ds).map fun bs => .fz (.bl (bs.all id))
  | _ => none
def gAny : List D → Option An
  | [.lst ds] => (toBs ds).map fun bs => .fz (.bl (bs.any id))
  | _ => none
theorem fn_all {K : PySem.W.Frag} : FnA K T gAll (rAll K) := fun ds a vs F H Q e r s q => by
  unfold gAll at e
  split at e
  · rename_i ds
    obtain ⟨v, rfl, b, us, rfl, hq, hr⟩ := rpis1 r
    cases e1 : toBs ds with
    | none => rw [e1] at e; cases e
    | some bs =>
      rw [e1] at e
      cases e
      rw [toBs_map e1] at hr
      rw [rps_bls hr] at hq
      exact ⟨b, bs, rfl, hq, q _ (rp_bl.mpr rfl)⟩
  · cases e
theorem fn_any {K : PySem.W.Frag} : FnA K T gAny (rAny K) := fun ds a vs F H Q e r s q => by
  unfold gAny at e
  split at e
  · rename_i ds
    obtain ⟨v, rfl, b, us, rfl, hq, hr⟩ := rpis1 r
    cases e1 : toBs ds with
    | none => rw [e1] at e; cases e
    | some bs =>
      rw [e1] at e
      cases e
      rw [toBs_map e1] at hr
      rw [rps_bls hr] at hq
      exact ⟨b, bs, rfl, hq, q _ (rp_bl.mpr rfl)⟩
  · cases e

/-! ### int, abs, max, min of two -/
def gInt : List D → Option An
  | [.int i] => some (.fz (.int i))
  | [.bl b] => some (.fz (.int (if b then 1 else 0)))
  | _ => none
def gAbs : List D → Option An
  | [.int i] => some (.fz (.int (if i < 0 then -i else i)))
  | _ => none
def gMax2 : List D → Option An
  | [.int i, .int j] => some (.fz (.int (if j > i then j else i)))
  | _ => none
def gMin2 : List D → Option An
  | [.int i, .int j] => some (.fz (.int (if j < i then j else i)))
  | _ => none
theorem fn_int {K : PySem.W.Frag} : FnA K T gInt (fun xs H Q => (∃ i, xs = [.int i] ∧ Q (.int i) H) ∨ ∃ k, xs = [.bl k] ∧ Q (.int (if k then 1 else 0)) H) := fun ds a vs F H Q e r s q => by
  unfold gInt at e
  split at e
  · rename_i i
    obtain ⟨v, rfl, h1⟩ := rpis1 r
    cases e
    exact .inl ⟨i, by rw [rpi_int h1], q _ (rp_int.mpr rfl)⟩
  · rename_i i
    obtain ⟨v, rfl, h1⟩ := rpis1 r
    cases e
    exact .inr ⟨i, by rw [rpi_bl h1], q _ (rp_int.mpr rfl)⟩
  · cases e
theorem fn_abs {K : PySem.W.Frag} : FnA K T gAbs (fun xs H Q => ∃ i, xs = [.int i] ∧ Q (.int (if i < 0 then -i else i)) H) := fun ds a vs F H Q e r s q => by
  unfold gAbs at e
  split at e
  · rename_i i
    obtain ⟨v, rfl, h1⟩ := rpis1 r
    cases e
    exact ⟨i, by rw [rpi_int h1], q _ (rp_int.mpr rfl)⟩
  · cases e
theorem fn_max2 {K : PySem.W.Frag} : FnA K T gMax2 (fun xs H Q => ∃ i j, xs = [.int i, .int j] ∧ Q (.int (if j > i then j else i)) H) := fun ds a vs F H Q e r s q => by
  unfold gMax2 at e
  split at e
  · rename_i i j
    obtain ⟨v, v2, rfl, h1, h2⟩ := rpis2 r
    cases e
    exact ⟨i, j, by rw [rpi_int h1, rpi_int h2], q _ (rp_int.mpr rfl)⟩
  · cases e
theorem fn_min2 {K : PySem.W.Frag} : FnA K T gMin2 (fun xs H Q => ∃ i j, xs = [.int i, .int j] ∧ Q (.int (if j < i then j else i)) H) := fun ds a vs F H Q e r s q => by
  unfold gMin2 at e
  split at e
  · rename_i i j
    obtain ⟨v, v2, rfl, h1, h2⟩ := rpis2 r
    cases e
    exact ⟨i, j, by rw [rpi_int h1, rpi_int h2], q _ (rp_int.mpr rfl)⟩
  · cases e

/-! ### sum, max, min, sorted of ints in a list -/
def gSum : List D → Option An
  | [.lst ds] => (toIs ds).map fun ns => .fz (.int ns.sum)
  | [.tup ds] => (toIs ds).map fun ns => .fz (.int ns.sum)
  | _ => none
def best (gt : Int → Int → Bool) : List Int → Option Int
  | [] => none
  | n :: ns => match best gt ns with
    | some m => some (if gt m n then m else n)
    | none => some n
def gMax1 : List D → Option An
  | [.lst ds] => match toIs ds with
    | some ns => (best (fun m n => decide (n < m)) ns).map fun m => .fz (.int m)
    | none => none
  | _ => none
def gMin1 : List D → Option An
  | [.lst ds] => match toIs ds with
    | some ns => (best (fun m n => decide (m < n)) ns).map fun m => .fz (.int m)
    | none => none
  | _ => none
theorem best_max : ∀ {ns : List Int} {m : Int}, best (fun m n => decide (n < m)) ns = some m → m ∈ ns ∧ ∀ y, y ∈ ns → y ≤ m
  | [], m, h => by cases h
  | n :: ns, m, h => by
    unfold best at h
    cases e : best (fun m n => decide (n < m)) ns with
    | none =>
      simp only [e] at h
      cases h
      cases ns with
      | nil => exact ⟨by simp, fun y hy => by simp at hy; omega⟩
      | cons a as =>
        unfold best at e
        split at e <;> cases e
    | some k =>
      simp only [e] at h
      cases h
      obtain ⟨h1, h2⟩ := best_max e
      by_cases c : n < k
      · simp only [c, decide_true, if_true]
        refine ⟨List.mem_cons_of_mem _ h1, fun y hy => ?_⟩
        rcases List.mem_cons.mp hy with rfl | hy
        · omega
        · exact h2 y hy
      · simp only [c, decide_false]
        refine ⟨List.mem_cons_self, fun y hy => ?_⟩
        rcases List.mem_cons.mp hy with rfl | hy
        · exact Int.le_refl _
        · have := h2 y hy
          simp; omega
theorem best_min : ∀ {ns : List Int} {m : Int}, best (fun m n => decide (m < n)) ns = some m → m ∈ ns ∧ ∀ y, y ∈ ns → m ≤ y
  | [], m, h => by cases h
  | n :: ns, m, h => by
    unfold best at h
    cases e : best (fun m n => decide (m < n)) ns with
    | none =>
      simp only [e] at h
      cases h
      cases ns with
      | nil => exact ⟨by simp, fun y hy => by simp at hy; omega⟩
      | cons a as =>
        unfold best at e
        split at e <;> cases e
    | some k =>
      simp only [e] at h
      cases h
      obtain ⟨h1, h2⟩ := best_min e
      by_cases c : k < n
      · simp only [c, decide_true, if_true]
        refine ⟨List.mem_cons_of_mem _ h1, fun y hy => ?_⟩
        rcases List.mem_cons.mp hy with rfl | hy
        · omega
        · exact h2 y hy
      · simp only [c, decide_false]
        refine ⟨List.mem_cons_self, fun y hy => ?_⟩
        rcases List.mem_cons.mp hy with rfl | hy
        · exact Int.le_refl _
        · have := h2 y hy
          simp; omega
def rSumA (K : PySem.W.Frag) : List V → Hp → VK → Prop := fun vs H Q => ∃ (a : Addr) (ns : List Int), vs = [V.ref a] ∧ (SqL K H a (ns.map V.int) ∨ SqT K H a (ns.map V.int)) ∧ Q (.int ns.sum) H
theorem cr_sumA {X : Cx} (hc : X.calm = true) : CallR X (.builtin "sum") (rSumA X.K) := by
  intro pins s σ H vs us Q I r h
  obtain ⟨a, ns, rfl, hs | hs, q⟩ := h
  · exact cr_sum hc pins s σ H _ us Q I r ⟨a, ns, rfl, hs, q⟩
  · obtain ⟨its, rv, pl, _⟩ := I.tuple hs
    rw [Vals.ref1 r]
    have hi := rv.ints
    have ht : s.heap.IsTuple a its.toArray := pl
    obtain ⟨xs, e⟩ := hi.allInts.items
    have hn : numsOf (intItems xs).toList = ns := by rw [← e]; exact hi.numsOf
    rw [nums_intItems] at hn
    rw [e] at ht
    refine PySem.W.ktm_sumG (I.ok.hd hc) ht fun h' tk t' hk => ?_
    rw [preSum_eq, List.take_of_length_le (by simp), hn]
    exact ⟨.int _, H, I.kept hk, ⟨_, rfl⟩, q⟩
theorem fn_sum {K : PySem.W.Frag} {T : Tab} : FnA K T gSum (rSumA K) := fun ds a vs F H Q e r s q => by
  unfold gSum at e
  split at e
  · rename_i ds
    obtain ⟨v, rfl, b, us, rfl, hq, hr⟩ := rpis1 r
    cases e1 : toIs ds with
    | none => rw [e1] at e; cases e
    | some ns =>
      rw [e1] at e
      cases e
      rw [rps_ints e1 hr] at hq
      exact ⟨b, ns, rfl, .inl hq, q _ (rp_int.mpr rfl)⟩
  · rename_i ds
    obtain ⟨v, rfl, b, us, rfl, hq, hr⟩ := rpis1 r
    cases e1 : toIs ds with
    | none => rw [e1] at e; cases e
    | some ns =>
      rw [e1] at e
      cases e
      rw [rps_ints e1 hr] at hq
      exact ⟨b, ns, rfl, .inr (hq.mono s).t, q _ (rp_int.mpr rfl)⟩
  · cases e
theorem fn_max1 {K : PySem.W.Frag} : FnA K T gMax1 (rMax K) := fun ds a vs F H Q e r s q => by
  unfold gMax1 at e
  split at e
  · rename_i ds
    obtain ⟨v, rfl, b, us, rfl, hq, hr⟩ := rpis1 r
    split at e
    · rename_i ns e1
      cases e2 : best (fun m n => decide (n < m)) ns with
      | none => rw [e2] at e; cases e
      | some m =>
        rw [e2] at e
        cases e
        rw [rps_ints e1 hr] at hq
        obtain ⟨h1, h2⟩ := best_max e2
        refine ⟨b, ns, rfl, hq, List.length_pos_of_mem h1, fun m' h3 h4 => ?_⟩
        have : m' = m := Int.le_antisymm (h2 m' h3) (h4 m h1)
        subst this
        exact q _ (rp_int.mpr rfl)
    · cases e
  · cases e
theorem fn_min1 {K : PySem.W.Frag} : FnA K T gMin1 (rMin K) := fun ds a vs F H Q e r s q => by
  unfold gMin1 at e
  split at e
  · rename_i ds
    obtain ⟨v, rfl, b, us, rfl, hq, hr⟩ := rpis1 r
    split at e
    · rename_i ns e1
      cases e2 : best (fun m n => decide (m < n)) ns with
      | none => rw [e2] at e; cases e
      | some m =>
        rw [e2] at e
        cases e
        rw [rps_ints e1 hr] at hq
        obtain ⟨h1, h2⟩ := best_min e2
        refine ⟨b, ns, rfl, hq, List.length_pos_of_mem h1, fun m' h3 h4 => ?_⟩
        have : m' = m := Int.le_antisymm (h4 m h1) (h2 m' h3)
        subst this
        exact q _ (rp_int.mpr rfl)
    · cases e
  · cases e
def ins1 (n : Int) : List Int → List Int
  | [] => [n]
  | m :: ms => if n ≤ m then n :: m :: ms else m :: ins1 n ms
def srt : List Int → List Int
  | [] => []
  | n :: ns => ins1 n (srt ns)
theorem ins1_perm (n : Int) : ∀ ms : List Int, (ins1 n ms).Perm (n :: ms)
  | [] => List.Perm.refl _
  | m :: ms => by
    unfold ins1
    split
    · exact List.Perm.refl _
    · exact ((ins1_perm n ms).cons m).trans (List.Perm.swap n m ms)
theorem srt_perm : ∀ ns : List Int, (srt ns).Perm ns
  | [] => List.Perm.refl _
  | n :: ns => (ins1_perm n (srt ns)).trans ((srt_perm ns).cons n)
theorem ins1_srt (n : Int) : ∀ ms : List Int, ms.Pairwise (· ≤ ·) → (ins1 n ms).Pairwise (· ≤ ·)
  | [], _ => by unfold ins1; exact List.pairwise_singleton _ _
  | m :: ms, h => by
    unfold ins1
    rw [List.pairwise_cons] at h
    split
    · rename_i hn
      refine List.pairwise_cons.mpr ⟨fun y hy => ?_, List.pairwise_cons.mpr h⟩
      rcases List.mem_cons.mp hy with rfl | hy
      · exact hn
      · exact Int.le_trans hn (h.1 y hy)
    · rename_i hn
      refine List.pairwise_cons.mpr ⟨fun y hy => ?_, ins1_srt n ms h.2⟩
      rcases List.mem_cons.mp ((ins1_perm n ms).mem_iff.mp hy) with rfl | hy
      · omega
      · exact h.1 y hy
theorem srt_srt : ∀ ns : List Int, (srt ns).Pairwise (· ≤ ·)
  | [] => List.Pairwise.nil
  | n :: ns => ins1_srt n _ (srt_srt ns)
theorem srt_unique : ∀ {as bs : List Int}, as.Perm bs → as.Pairwise (· ≤ ·) → bs.Pairwise (· ≤ ·) → as = bs
  | [], bs, p, _, _ => (List.nil_perm.mp p).symm
  | a :: as, bs, p, h1, h2 => by
    cases bs with
    | nil => exact absurd (List.perm_nil.mp p) (by simp)
    | cons b bs =>
      rw [List.pairwise_cons] at h1 h2
      have hab : a = b := by
        have ha : a ∈ b :: bs := p.mem_iff.mp List.mem_cons_self
        have hb : b ∈ a :: as := p.mem_iff.mpr List.mem_cons_self
        rcases List.mem_cons.mp ha with rfl | ha
        · rfl
        · rcases List.mem_cons.mp hb with rfl | hb
          · rfl
          · exact Int.le_antisymm (h1.1 b hb) (h2.1 a ha)
      subst hab
      rw [srt_unique (List.Perm.cons_inv p) h1.2 h2.2]
theorem srt_of {as bs : List Int} (p : as.Perm bs) (h : as.Pairwise (· ≤ ·)) : as = srt bs := srt_unique (p.trans (srt_perm bs).symm) h (srt_srt bs)
def gSorted : List D → Option An
  | [.lst ds] => (toIs ds).map fun ns => .nw (.lst ((srt ns).map .int))
  | _ => none
theorem fn_sorted {K : PySem.W.Frag} : FnA K T gSorted (rSortedI K) := fun ds a vs F H Q e r s q => by
  unfold gSorted at e
  split at e
  · rename_i ds
    obtain ⟨v, rfl, b, us, rfl, hq, hr⟩ := rpis1 r
    cases e1 : toIs ds with
    | none => rw [e1] at e; cases e
    | some ns =>
      rw [e1] at e
      cases e
      rw [rps_ints e1 hr] at hq
      refine ⟨b, ns, rfl, hq, fun ns' p hp hs hn => ?_⟩
      rw [srt_of hp hs]
      exact nw_lst q p _ hn ((Rps.ints _ _).mpr rfl)
  · cases e

/-! ### list(x), tuple(x) -/
def gList : List D → Option An
  | [.lst ds] => some (.nw (.lst ds))
  | [.tup ds] => some (.nw (.lst ds))
  | _ => none
def gTuple : List D → Option An
  | [.lst ds] => some (.nt ds)
  | [.tup ds] => some (.fz (.tup ds))
  | _ => none
theorem fn_list {K : PySem.W.Frag} : FnA K T gList (fun xs H Q => ∃ p ys, xs = [.ref p] ∧ (SqL K H p ys ∨ SqT K H p ys) ∧ ∀ l, H l = none → Q (.ref l) (upd H l (.lst ys))) := fun ds a vs F H Q e r s q => by
  unfold gList at e
  split at e
  · rename_i ds
    obtain ⟨v, rfl, b, us, rfl, hq, hr⟩ := rpis1 r
    cases e
    exact ⟨b, us, rfl, .inl hq, fun l hl => nw_lst q l us hl hr⟩
  · rename_i ds
    obtain ⟨v, rfl, b, us, rfl, hq, hr⟩ := rpis1 r
    cases e
    exact ⟨b, us, rfl, .inr (hq.mono s).t, fun l hl => nw_lst q l us hl hr⟩
  · cases e
def rTupN (K : PySem.W.Frag) : List V → Hp → VK → Prop := fun xs H Q => ∃ p ys, xs = [.ref p] ∧ ((SqL K H p ys ∧ NewT Q H ys) ∨ (SqT K H p ys ∧ Q (.ref p) H))
theorem call_tupN : CallR X (.type "tuple") (rTupN X.K) := by
  intro pins s σ H xs us Q I r h
  obtain ⟨p, ys, rfl, h⟩ := h
  obtain ⟨u, rfl, rx⟩ := vals1 r
  cases rx
  rcases h with ⟨hq, q⟩ | ⟨hq, q⟩
  · obtain ⟨its, r', pl, hz⟩ := I.list hq
    have hlen := r'.length
    refine call_tuple_list pl.isList (fun h' kp => ?_) (by simp only [List.size_toArray] <;> omega)
    have I1 : Inv X pins σ H { s with heap := h' } := I.kept (t' := s.toks) kp
    exact ⟨.ref h'.objs.size, _, I1.laid (t' := s.toks) (fun b o e => Heap.get?_push_of_some _ e) (Nat.le_refl _) (tup_new (Heap.get?_push_size _ rfl) rfl r' hz), rfl, q _ _ (I1.hok.fresh (Nat.le_refl _)) rfl⟩
  · obtain ⟨its, r', pl, hz⟩ := I.tuple hq
    exact call_tuple_same pl ⟨.ref p, H, I, rfl, q⟩
theorem fn_tuple {K : PySem.W.Frag} : FnA K T gTuple (rTupN K) := fun ds a vs F H Q e r s q => by
  unfold gTuple at e
  split at e
  · rename_i ds
    obtain ⟨v, rfl, b, us, rfl, hq, hr⟩ := rpis1 r
    cases e
    exact ⟨b, us, rfl, .inl ⟨hq, fun l o hl ho => q.1 l o us hl ho hr⟩⟩
  · rename_i ds
    obtain ⟨v, rfl, b, us, rfl, hq, hr⟩ := rpis1 r
    cases e
    exact ⟨b, us, rfl, .inr ⟨(hq.mono s).t, q _ (rp_tup.mpr ⟨b, us, rfl, hq, hr⟩)⟩⟩
  · cases e

/-! ### the rules -/
variable {x : Str}
theorem de_len (gl : Gl X "len") (hm : X.mg "len" = none) (ha : DA X T W [e] fs) (he : starEach [e] X.env = (false, eval e X.env) :: starEach [] X.env := by rfl) : DE X T W (.Call (.Name "len" p) [e] [] pos) (dFn gLen fs) := de_fn call_len fn_len gl hm ha (he := he)
theorem de_isi (gl : Gl X "isinstance") (hm : X.mg "isinstance" = none) (ha : DA X T W [e, b] fs) (he : starEach [e, b] X.env = (false, eval e X.env) :: starEach [b] X.env := by rfl) (hpl : (backTo pos (starEach [b] X.env)).any (·.1) = false := by rfl) : DE X T W (.Call (.Name "isinstance" p) [e, b] [] pos) (dFn gIsi5 fs) := de_fn call_isi fn_isi gl hm ha (he := he) (hpl := hpl)
theorem de_all (hc : X.calm = true) (gl : Gl X "all") (hm : X.mg "all" = none) (ha : DA X T W [e] fs) (he : starEach [e] X.env = (false, eval e X.env) :: starEach [] X.env := by rfl) : DE X T W (.Call (.Name "all" p) [e] [] pos) (dFn gAll fs) := de_fn (cr_all hc) fn_all gl hm ha (he := he)
theorem de_any (hc : X.calm = true) (gl : Gl X "any") (hm : X.mg "any" = none) (ha : DA X T W [e] fs) (he : starEach [e] X.env = (false, eval e X.env) :: starEach [] X.env := by rfl) : DE X T W (.Call (.Name "any" p) [e] [] pos) (dFn gAny fs) := de_fn (cr_any hc) fn_any gl hm ha (he := he)
theorem de_intF (gl : Gl X "int") (hm : X.mg "int" = none) (ha : DA X T W [e] fs) (he : starEach [e] X.env = (false, eval e X.env) :: starEach [] X.env := by rfl) : DE X T W (.Call (.Name "int" p) [e] [] pos) (dFn gInt fs) := de_fnTy call_int1 fn_int gl hm ha (he := he)
theorem de_abs (gl : Gl X "abs") (hm : X.mg "abs" = none) (ha : DA X T W [e] fs) (he : starEach [e] X.env = (false, eval e X.env) :: starEach [] X.env := by rfl) : DE X T W (.Call (.Name "abs" p) [e] [] pos) (dFn gAbs fs) := de_fn call_abs fn_abs gl hm ha (he := he)
theorem de_max2 (hc : X.calm = true) (gl : Gl X "max") (hm : X.mg "max" = none) (ha : DA X T W [e, b] fs) (he : starEach [e, b] X.env = (false, eval e X.env) :: starEach [b] X.env := by rfl) (hpl : (backTo pos (starEach [b] X.env)).any (·.1) = false := by rfl) : DE X T W (.Call (.Name "max" p) [e, b] [] pos) (dFn gMax2 fs) := de_fn (call_max2 hc) fn_max2 gl hm ha (he := he) (hpl := hpl)
theorem de_min2 (hc : X.calm = true) (gl : Gl X "min") (hm : X.mg "min" = none) (ha : DA X T W [e, b] fs) (he : starEach [e, b] X.env = (false, eval e X.env) :: starEach [b] X.env := by rfl) (hpl : (backTo pos (starEach [b] X.env)).any (·.1) = false := by rfl) : DE X T W (.Call (.Name "min" p) [e, b] [] pos) (dFn gMin2 fs) := de_fn (call_min2 hc) fn_min2 gl hm ha (he := he) (hpl := hpl)
theorem de_sum (hc : X.calm = true) (gl : Gl X "sum") (hm : X.mg "sum" = none) (ha : DA X T W [e] fs) (he : starEach [e] X.env = (false, eval e X.env) :: starEach [] X.env := by rfl) : DE X T W (.Call (.Name "sum" p) [e] [] pos) (dFn gSum fs) := de_fn (cr_sumA hc) fn_sum gl hm ha (he := he)
theorem de_max1 (hc : X.calm = true) (gl : Gl X "max") (hm : X.mg "max" = none) (ha : DA X T W [e] fs) (he : starEach [e] X.env = (false, eval e X.env) :: starEach [] X.env := by rfl) : DE X T W (.Call (.Name "max" p) [e] [] pos) (dFn gMax1 fs) := de_fn (cr_max hc) fn_max1 gl hm ha (he := he)
theorem de_min1 (hc : X.calm = true) (gl : Gl X "min") (hm : X.mg "min" = none) (ha : DA X T W [e] fs) (he : starEach [e] X.env = (false, eval e X.env) :: starEach [] X.env := by rfl) : DE X T W (.Call (.Name "min" p) [e] [] pos) (dFn gMin1 fs) := de_fn (cr_min hc) fn_min1 gl hm ha (he := he)
theorem de_sorted (gl : Gl X "sorted") (hm : X.mg "sorted" = none) (ha : DA X T W [e] fs) (he : starEach [e] X.env = (false, eval e X.env) :: starEach [] X.env := by rfl) : DE X T W (.Call (.Name "sorted" p) [e] [] pos) (dFn gSorted fs) := de_fn cr_sortedI fn_sorted gl hm ha (he := he)
theorem de_list (gl : Gl X "list") (hm : X.mg "list" = none) (ha : DA X T W [e] fs) (he : starEach [e] X.env = (false, eval e X.env) :: starEach [] X.env := by rfl) : DE X T W (.Call (.Name "list" p) [e] [] pos) (dFn gList fs) := de_fnTy call_list_of fn_list gl hm ha (he := he)
theorem de_tuple (gl : Gl X "tuple") (hm : X.mg "tuple" = none) (ha : DA X T W [e] fs) (he : starEach [e] X.env = (false, eval e X.env) :: starEach [] X.env := by rfl) : DE X T W (.Call (.Name "tuple" p) [e] [] pos) (dFn gTuple fs) := de_fnTy call_tupN fn_tuple gl hm ha (he := he)
end
end DL

/-! DL16: list(range(..)), tuple(range(..)), len(set(..)); what is not looked at -/
namespace DL
open PySem PySem.Spec PyProof.Rows L2

section
variable {X : Cx} {T : Tab} {W : WX} {e a b c : Expr} {es : List Expr} {f fa fb fc : En → O R} {fs : En → O (List R)} {pos p p2 : Pos} {P : List Nat}
/-! ### nothing is said -/
theorem ds_bad {st : Stmt} : DS X T W P st (fun _ => .bad) := ⟨fun pins s σ H D I q => by obtain ⟨F, ε, k, p⟩ := q; exact p.elim⟩
theorem dss_bad {st : List Stmt} : DSs X T W P st (fun _ => .bad) := ⟨fun pins s σ H D I q => by obtain ⟨F, ε, k, p⟩ := q; exact p.elim⟩
theorem de_bad : DE X T W e (fun _ => .bad) := ⟨fun pins s σ H D I q => by obtain ⟨F, ε, k, p⟩ := q; exact p.elim⟩
theorem dt_bad : DT X T W e (fun _ => .bad) := ⟨fun pins s σ H D I q => by obtain ⟨F, ε, k, p⟩ := q; exact p.elim⟩

/-! ### ranges as arguments -/
def tDR (K : PySem.W.Frag) (T : Tab) (W : WX) (f : En → O (Int × Int)) : L2.St → Hp → (Int → Int → Hp → Prop) → Prop := fun σ H Q => ∃ F ε, Ok K T F H σ ε ∧ Po K T W F H σ ε (f ε) (fun ab _ _ H' => Q ab.1 ab.2 H')
abbrev DR (X : Cx) (T : Tab) (W : WX) (e : Expr) (f : En → O (Int × Int)) : Prop := PRg X e (tDR X.K T W f)
theorem PRg.imp {t t' : L2.St → Hp → (Int → Int → Hp → Prop) → Prop} (h : PRg X e t) (w : ∀ σ H Q, t' σ H Q → t σ H Q) : PRg X e t' := fun pins s σ H Q I q => h pins s σ H Q I (w σ H Q q)
def vR1 (ε : En) (r : R) : O (Int × Int) :=
  match res ε r with
  | some (.int i) => .ok (0, i) ε
  | _ => .bad
def vR2 (ε : En) (r1 r2 : R) : O (Int × Int) :=
  match res ε r1, res ε r2 with
  | some (.int i), some (.int j) => .ok (i, j) ε
  | _, _ => .bad
def dR1 (f : En → O R) : En → O (Int × Int) := fun ε => (f ε).bind fun r ε1 => vR1 ε1 r
def dR2 (fa fb : En → O R) : En → O (Int × Int) := fun ε => (fa ε).bind fun r1 ε1 => (fb ε1).bind fun r2 ε2 => vR2 ε2 r1 r2
theorem dr_1 (hg : Gl X "range") (hm : X.mg "range" = none) (ha : DE X T W a fa) (na : starEach [a] X.env = (false, eval a X.env) :: starEach [] X.env := by rfl) : DR X T W (.Call (.Name "range" p) [a] [] pos) (dR1 fa) := by
  refine PRg.imp (prg_1 hg hm ha na) fun σ H Q q => ?_
  obtain ⟨F, ε, k, p⟩ := q
  refine tD_use (g := fun r ε1 => vR1 ε1 r) k Ext.refl p fun v F1 H1 r ε1 k1 x1 _ q1 n1 p1 => ?_
  unfold vR1 at p1
  split at p1
  · rename_i i e1
    exact ⟨i, rp_int.mp (res_rp k1 q1 e1), p1 F1 H1 k1 x1⟩
  · exact p1.elim
theorem dr_2 (hg : Gl X "range") (hm : X.mg "range" = none) (ha : DE X T W a fa) (hb : DE X T W b fb) (na : starEach [a, b] X.env = (false, eval a X.env) :: starEach [b] X.env := by rfl)
    (nb : starEach [b] X.env = (false, eval b X.env) :: starEach [] X.env := by rfl) (hp : (backTo pos (starEach [b] X.env)).any (·.1) = false := by rfl) : DR X T W (.Call (.Name "range" p) [a, b] [] pos) (dR2 fa fb) := by
  refine PRg.imp (prg_2 hg hm ha hb na nb hp) fun σ H Q q => ?_
  obtain ⟨F, ε, k, p⟩ := q
  refine two_use (g := fun r1 r2 ε2 => vR2 ε2 r1 r2) k Ext.refl p fun v1 v2 F2 H2 r1 r2 ε2 k2 _ x2 q1 q2 n1 n2 nd p2 => ?_
  unfold vR2 at p2
  split at p2
  · rename_i i j e1 e2
    exact ⟨i, j, rp_int.mp (res_rp k2 q1 e1), rp_int.mp (res_rp k2 q2 e2), p2 F2 H2 k2 x2⟩
  · exact p2.elim
def rgOk (a b : Int) : Bool := smallI a && smallI b && decide ((b - a).toNat ≤ 1000000)
theorem rgOk_ok {a b : Int} (h : rgOk a b = true) : RgOk a b := by
  rw [rgOk, Bool.and_eq_true, Bool.and_eq_true, decide_eq_true_eq] at h
  have h1 := smallI_ok h.1.1
  have h2 := smallI_ok h.1.2
  exact ⟨h1.1, h1.2, h2.1, h2.2, by omega⟩
theorem rps_range {K : PySem.W.Frag} {F : Hp} {a b : Int} : Rps K T F (rangeD a (b - a).toNat) (rgV a b) := by
  have e : rangeD a (b - a).toNat = ((List.range (b - a).toNat).map fun i => a + (i : Nat)).map D.int := by
    unfold rangeD
    rw [List.map_map]; rfl
  rw [e]
  refine (Rps.ints _ _).mpr ?_
  unfold rgV
  rw [List.map_map]; rfl
def dLRg (fr : En → O (Int × Int)) : En → O R := fun ε => (fr ε).bind fun ab ε1 => if rgOk ab.1 ab.2 then .ok (.new (.lst (rangeD ab.1 (ab.2 - ab.1).toNat))) ε1 else .bad
def dTRg (fr : En → O (Int × Int)) : En → O R := fun ε => (fr ε).bind fun ab ε1 => if rgOk ab.1 ab.2 then .ok (.fz (.tup (rangeD ab.1 (ab.2 - ab.1).toNat))) ε1 else .bad
theorem tDR_use {α : Type} {K : PySem.W.Frag} {fr : En → O (Int × Int)} {g : Int × Int → En → O α} {F0 H0 F H : Hp} {σ : L2.St} {ε0 ε : En} {S : α → En → Hp → Hp → Prop} {Q : Int → Int → Hp → Prop} (k : Ok K T F H σ ε) (x0 : Ext F0 H0 σ ε0 F H σ ε) (p : Po K T W F0 H0 σ ε0 ((fr ε).bind g) S)
    (h : ∀ ab F1 H1 ε1, Ok K T F1 H1 σ ε1 → Ext F0 H0 σ ε0 F1 H1 σ ε1 → Po K T W F0 H0 σ ε0 (g ab ε1) S → Q ab.1 ab.2 H1) : tDR K T W fr σ H Q := by
  refine ⟨F, ε, k, ?_⟩
  cases e : fr ε with
  | bad => rw [e] at p; exact p
  | ok b ε1 =>
    rw [e] at p
    exact fun F1 H1 k1 x1 => h b F1 H1 ε1 k1 (x0.trans x1) p
  | exn c ε1 =>
    rw [e] at p
    exact fun F1 H1 k1 x1 => p F1 H1 k1 (x0.trans x1)
theorem de_listRg {fr : En → O (Int × Int)} (hc : X.calm = true) (hg : Gl X "list") (hm : X.mg "list" = none) (he : DR X T W e fr) (na : starEach [e] X.env = (false, eval e X.env) :: starEach [] X.env := by rfl) : DE X T W (.Call (.Name "list" p) [e] [] pos) (dLRg fr) := by
  refine PE.imp (pe_listRg hc hg hm he na) fun σ H Q q => ?_
  obtain ⟨F, ε, k, p⟩ := q
  refine tDR_use k Ext.refl p fun ab F1 H1 ε1 k1 x1 p1 => ?_
  by_cases h : rgOk ab.1 ab.2 = true
  · rw [if_pos h] at p1
    exact ⟨rgOk_ok h, fun q hq => SE.new k1 x1 p1 hq (rpO_lst.mpr ⟨_, rfl, rps_range⟩)⟩
  · rw [if_neg h] at p1; exact p1.elim
theorem pe_tupRgN {te : L2.St → Hp → (Int → Int → Hp → Prop) → Prop} (hc : X.calm = true) (hg : Gl X "tuple") (hm : X.mg "tuple" = none) (he : PRg X e te) (na : starEach [e] X.env = (false, eval e X.env) :: starEach [] X.env := by rfl) :
    PE X (.Call (.Name "tuple" p) [e] [] pos) (fun σ H Q => te σ H fun a b H1 => RgOk a b ∧ NewT Q H1 (rgV a b)) := by
  refine ⟨fun pins s σ H Q I h => ?_⟩
  refine Call_ (ld_blt I hg hm boot_tuple (PyProof.Rows.callWith_type1 (args_cons (thn (he pins s σ H _ I h) fun x s1 ⟨r, a, b, t, u, v, H1, ex, hr, I1, ok, q⟩ => args_nil ?_) na) na))
  subst ex
  have hl : (rgV a b).length ≤ sizeLine := by rw [rgV_length, sizeLine_eq]; have := ok.2.2.2.2; omega
  obtain ⟨b1, b2, b3, b4, b5⟩ := ok
  refine call_tuple_range (n := (b - a).toNat) (I1.ok.hd hc) hr (small_one b1 b2 b3 b4) (rangeSize_nat a b) b5 fun h' tk acc hk hi => ?_
  have I2 : Inv X pins σ H1 { s1 with heap := h', toks := tk } := I1.kept hk
  exact ⟨.ref h'.objs.size, _, I2.laid (t' := tk) (fun c o e => Heap.get?_push_of_some _ e) (Nat.le_refl _) (tup_new (us := acc.toList) (Heap.get?_push_size _ rfl) (by rw [Array.toArray_toList]) (vals_rg hi) hl), rfl, q _ _ (I2.hok.fresh (Nat.le_refl _)) rfl⟩
theorem de_tupRg {fr : En → O (Int × Int)} (hc : X.calm = true) (hg : Gl X "tuple") (hm : X.mg "tuple" = none) (he : DR X T W e fr) (na : starEach [e] X.env = (false, eval e X.env) :: starEach [] X.env := by rfl) : DE X T W (.Call (.Name "tuple" p) [e] [] pos) (dTRg fr) := by
  refine PE.imp (pe_tupRgN hc hg hm he na) fun σ H Q q => ?_
  obtain ⟨F, ε, k, p⟩ := q
  refine tDR_use k Ext.refl p fun ab F1 H1 ε1 k1 x1 p1 => ?_
  by_cases h : rgOk ab.1 ab.2 = true
  · rw [if_pos h] at p1
    exact ⟨rgOk_ok h, fun q o hq ho => SE.newT k1 x1 p1 hq rps_range ho⟩
  · rw [if_neg h] at p1; exact p1.elim

/-! ### len(set(x)), ints -/
def dd : List Int → List Int
  | [] => []
  | n :: ns => if ns.contains n then dd ns else n :: dd ns
theorem dd_mem : ∀ (ns : List Int) (k : Int), k ∈ dd ns ↔ k ∈ ns
  | [], k => Iff.rfl
  | n :: ns, k => by
    unfold dd
    split
    · rename_i h
      rw [dd_mem ns k, List.mem_cons]
      constructor
      · exact .inr
      · rintro (rfl | h')
        · simpa using h
        · exact h'
    · rw [List.mem_cons, List.mem_cons, dd_mem ns k]
theorem dd_nodup : ∀ ns : List Int, (dd ns).Nodup
  | [] => List.nodup_nil
  | n :: ns => by
    unfold dd
    split
    · exact dd_nodup ns
    · rename_i h
      refine List.nodup_cons.mpr ⟨fun z => h ?_, dd_nodup ns⟩
      simpa using (dd_mem ns n).mp z
theorem dd_len {ns ks : List Int} (h : ks.Nodup) (m : ∀ k, k ∈ ns ↔ k ∈ ks) : ks.length = (dd ns).length :=
  ((List.perm_ext_iff_of_nodup h (dd_nodup ns)).mpr fun k => (m k).symm.trans (dd_mem ns k).symm).length_eq
theorem firstMet_mem (ns : List Int) : ∀ i, i ≤ ns.length → ((PyProof.Rows.firstMet (fun j => ns.getD j 0) i).Nodup ∧ ∀ k, k ∈ PyProof.Rows.firstMet (fun j => ns.getD j 0) i ↔ k ∈ ns.take i)
  | 0, _ => by simp [PyProof.Rows.firstMet_zero]
  | i + 1, h => by
    obtain ⟨h1, h2⟩ := firstMet_mem ns i (by omega)
    have hlt : i < ns.length := by omega
    have eg : ns.getD i 0 = ns[i] := by rw [List.getD_eq_getElem?_getD, List.getElem?_eq_getElem hlt] <;> rfl
    have et : ns.take (i + 1) = ns.take i ++ [ns[i]] := by rw [List.take_add_one, List.getElem?_eq_getElem hlt] <;> rfl
    rw [PyProof.Rows.firstMet_succ, et, eg]
    have es : PyProof.Rows.step_dedup (PyProof.Rows.firstMet (fun j => ns.getD j 0) i) ns[i] = if (PyProof.Rows.firstMet (fun j => ns.getD j 0) i).any (· == ns[i]) then PyProof.Rows.firstMet (fun j => ns.getD j 0) i else PyProof.Rows.firstMet (fun j => ns.getD j 0) i ++ [ns[i]] := rfl
    rw [es]
    by_cases ha : (PyProof.Rows.firstMet (fun j => ns.getD j 0) i).any (· == ns[i]) = true
    · rw [if_pos ha]
      refine ⟨h1, fun k => ?_⟩
      rw [h2 k, List.mem_append, List.mem_singleton]
      constructor
      · exact .inl
      · rintro (z | z)
        · exact z
        · obtain ⟨y, hy, ey⟩ := List.any_eq_true.mp ha
          rw [z, ← beq_iff_eq.mp ey]
          exact (h2 y).mp hy
    · rw [if_neg ha]
      refine ⟨List.nodup_append.mpr ⟨h1, by simp, fun x hx y hy e => ha ?_⟩, fun k => ?_⟩
      · rw [List.mem_singleton] at hy
        exact List.any_eq_true.mpr ⟨x, hx, beq_iff_eq.mpr (e.trans hy)⟩
      · rw [List.mem_append, List.mem_append, h2 k]
def tLenSet (K : PySem.W.Frag) (ta : TE) : TE := fun σ H Q => ta σ H fun x H1 => ∃ (l : Addr) (ns : List Int), x = .ref l ∧ (SqL K H1 l (ns.map V.int) ∨ SqT K H1 l (ns.map V.int)) ∧ ns.length ≤ 4000 ∧ Q (.int ((dd ns).length : Nat)) H1
theorem pe_lenSet {ta : TE} {q : Pos} (hc : X.calm = true) (hg : Gl X "len") (hm : X.mg "len" = none) (hg2 : Gl X "set") (hm2 : X.mg "set" = none) (ha : PE X a ta)
    (na : starEach [a] X.env = (false, eval a X.env) :: starEach [] X.env := by rfl) : PE X (.Call (.Name "len" p) [.Call (.Name "set" p2) [a] [] q] [] pos) (tLenSet X.K ta) := by
  refine ⟨fun pins s σ H Q I h => ?_⟩
  refine Call_ (ld_blt I hg hm boot_len ?_)
  refine PyProof.Rows.callWith_builtin1 (PyProof.Rows.args_cons ?_ rfl) rfl rfl
  refine Call_ (ld_blt I hg2 hm2 boot_set ?_)
  refine PyProof.Rows.callWith_type1 (PyProof.Rows.args_cons (thn (ha.run pins s σ H _ I h) fun v s1 ⟨x, H1, I1, r1, q1⟩ => PyProof.Rows.args_nil ?_) na) na rfl
  obtain ⟨l, ns, rfl, hq, hl, q1⟩ := q1
  cases r1
  rcases hq with hq | hq
  · obtain ⟨its, r, pl, hz⟩ := I1.list hq
    have hlen : its.toArray.size = ns.length := by rw [List.size_toArray, ← r.length, List.length_map]
    refine call_set_list (I1.ok.hd hc) pl.isList (by simpa using r.ints) (by rw [hlen]; unfold scanBound; omega) fun h' tk hS hk => ?_
    refine PyProof.Rows.args_nil ?_
    rw [hlen] at hS
    obtain ⟨m1, m2⟩ := firstMet_mem ns ns.length (Nat.le_refl _)
    rw [List.take_length] at m2
    rw [dd_len (ns := ns) m1 fun k => (m2 k).symm] at hS
    obtain ⟨o, es, ep, t, ho, hex, hd, _, _, _, hf, hn⟩ := hS
    have I2 : Inv X pins σ H1 { s1 with heap := h', toks := tk } := I1.kept fun b o e => hk b o (Heap.lt_size e) e
    have hle : (dd ns).length ≤ ns.length := by
      have := PyProof.Rows.firstMet_length_le (fun j => ns.getD j 0) ns.length
      rw [dd_len (ns := ns) m1 fun k => (m2 k).symm] at this
      exact this
    exact call_len_set ho hex hd hf (by rw [hn] <;> omega) ⟨.int ((dd ns).length : Nat), H1, I2.tok _, ⟨_, by rw [hn]⟩, q1⟩
  · obtain ⟨its, r, pl, hz⟩ := I1.tuple hq
    refine call_set_tupI ns (I1.ok.hd hc) (show s1.heap.IsTuple l its.toArray from pl) (by simpa using r.ints) (by unfold scanBound; omega) fun h' tk c hS hcn hk => ?_
    refine PyProof.Rows.args_nil ?_
    obtain ⟨o, es, ep, t, ho, hex, hd, _, hnd, hmem, _, hf, hn, _⟩ := hS
    have I2 : Inv X pins σ H1 { s1 with heap := h', toks := tk } := I1.kept hk
    have hcard : es.size = (dd ns).length := by
      rw [← dd_len (ns := ns) hnd fun k => by rw [← hmem k, decide_eq_true_eq], List.length_map, Array.length_toList]
    exact call_len_set ho hex hd hf (by rw [hn] <;> omega) ⟨.int ((dd ns).length : Nat), H1, I2.tok _, ⟨_, by rw [hcard]⟩, q1⟩
def vLenSet (ε : En) (r : R) : O R :=
  match res ε r with
  | some (.lst ds) => match toIs ds with
    | some ns => if ns.length ≤ 4000 then .ok (.fz (.int ((dd ns).length : Nat))) ε else .bad
    | none => .bad
  | some (.tup ds) => match toIs ds with
    | some ns => if ns.length ≤ 4000 then .ok (.fz (.int ((dd ns).length : Nat))) ε else .bad
    | none => .bad
  | _ => .bad
def dLenSet (f : En → O R) : En → O R := fun ε => (f ε).bind fun r ε1 => vLenSet ε1 r
theorem de_lenSet {q : Pos} (hc : X.calm = true) (hg : Gl X "len") (hm : X.mg "len" = none) (hg2 : Gl X "set") (hm2 : X.mg "set" = none) (ha : DE X T W a fa)
    (na : starEach [a] X.env = (false, eval a X.env) :: starEach [] X.env := by rfl) : DE X T W (.Call (.Name "len" p) [.Call (.Name "set" p2) [a] [] q] [] pos) (dLenSet fa) := by
  refine PE.imp (pe_lenSet hc hg hm hg2 hm2 ha na) fun σ H Q q => ?_
  obtain ⟨F, ε, k, p⟩ := q
  refine tD_use (g := fun r ε1 => vLenSet ε1 r) k Ext.refl p fun v F1 H1 r ε1 k1 _ x1 q1 n1 p1 => ?_
  unfold vLenSet at p1
  cases e1 : res ε1 r with
  | none => simp only [e1] at p1; exact p1.elim
  | some d =>
    simp only [e1] at p1
    have a1 := res_rpi k1 q1 e1
    cases d with
    | lst ds =>
      obtain ⟨l, vs, rfl, hq, hr⟩ := a1
      cases e2 : toIs ds with
      | none => simp only [e2] at p1; exact p1.elim
      | some ns =>
        simp only [e2] at p1
        by_cases h : ns.length ≤ 4000
        · rw [if_pos h] at p1
          rw [rps_ints e2 hr] at hq
          exact ⟨l, ns, rfl, .inl hq, h, SE.flat (H' := H1) k1 x1 p1 rfl (rp_int.mpr rfl)⟩
        · rw [if_neg h] at p1; exact p1.elim
    | tup ds =>
      obtain ⟨l, vs, rfl, hq, hr⟩ := a1
      cases e2 : toIs ds with
      | none => simp only [e2] at p1; exact p1.elim
      | some ns =>
        simp only [e2] at p1
        by_cases h : ns.length ≤ 4000
        · rw [if_pos h] at p1
          rw [rps_ints e2 hr] at hq
          exact ⟨l, ns, rfl, .inr (hq.mono k1.sub).t, h, SE.flat (H' := H1) k1 x1 p1 rfl (rp_int.mpr rfl)⟩
        · rw [if_neg h] at p1; exact p1.elim
    | _ => exact p1.elim
end
end DL

/-! DL17: from the law's function to its promise -/
namespace DL
open PySem PySem.Spec PyProof.Rows L2
theorem sp_law {K : PySem.W.Frag} {T : Tab} {φ : En → O R} {H : Hp} {a : Addr} {ns : List Int} (hS : SqL K H a (ns.map V.int)) (h : ∃ ε, φ [.fz (.lst (ns.map D.int))] = .ok (.fz (.bl true)) ε) : spD K T 1 φ [.ref a] H (fun v _ => v = .bl true) fun _ _ _ => False := by
  obtain ⟨ε, e⟩ := h
  refine ⟨rfl, H, [.fz (.lst (ns.map D.int))], ⟨Same.refl _, rfl, fun i d ei => ?_, fun i d ei => ?_, fun i j d d' b e1 => ?_⟩, ?_⟩
  · cases i with
    | zero =>
      have ei : some (Sl.fz (.lst (ns.map D.int))) = some (.fz d) := ei
      cases ei
      exact ⟨.ref a, rfl, rp_lst.mpr ⟨a, _, rfl, hS, (Rps.ints _ _).mpr rfl⟩⟩
    | succ i => simp at ei
  · cases i with
    | zero =>
      have ei : some (Sl.fz (.lst (ns.map D.int))) = some (.own d) := ei
      cases ei
    | succ i => simp at ei
  · cases i with
    | zero =>
      have ei : some (Sl.fz (.lst (ns.map D.int))) = some (.own d) := e1
      cases ei
    | succ i => simp at e1
  · rw [e]
    intro F' H' k x v hv hn
    exact (rp_bl (K := K) (T := T) (F := F')).mp hv
end DL

/-! DL18: reckoning with the functions -/
namespace DL
/-- ownIn, slot by slot -/
def ownG (P : List Nat) : Nat → En → Bool
  | _, [] => true
  | i, .own _ :: ε => P.contains i && ownG P (i + 1) ε
  | i, _ :: ε => ownG P (i + 1) ε
theorem ownG_all (P : List Nat) : ∀ (ε : En) (k : Nat), ownG P k ε = (List.range ε.length).all fun i => match ε[i]? with
    | some (.own _) => P.contains (k + i)
    | _ => true
  | [], k => rfl
  | s :: ε, k => by
    have ih := ownG_all P ε (k + 1)
    rw [List.length_cons, List.range_succ_eq_map, List.all_cons, List.all_map]
    have e : (List.range ε.length).all ((fun i => match (s :: ε)[i]? with | some (Sl.own _) => P.contains (k + i) | _ => true) ∘ Nat.succ) = ownG P (k + 1) ε := by
      rw [ih]
      congr 1
      funext i
      show (match (s :: ε)[i + 1]? with | some (.own _) => P.contains (k + (i + 1)) | _ => true) = _
      rw [List.getElem?_cons_succ, show k + (i + 1) = k + 1 + i by omega]
    rw [e]
    cases s <;> simp [ownG]
theorem ownIn_G (P : List Nat) (ε : En) : ownIn P ε = ownG P 0 ε := by
  rw [ownG_all]
  unfold ownIn
  congr 1
  funext i
  rw [Nat.zero_add] <;> (rcases ε[i]? with _ | s <;> first | rfl | (cases s <;> rfl))
theorem ownG_nil (P : List Nat) (i : Nat) : ownG P i [] = true := rfl
theorem ownG_fz (P : List Nat) (i : Nat) (d : D) (ε : En) : ownG P i (.fz d :: ε) = ownG P (i + 1) ε := rfl
theorem ownG_no (P : List Nat) (i : Nat) (ε : En) : ownG P i (.no :: ε) = ownG P (i + 1) ε := rfl
theorem ownG_own (P : List Nat) (i : Nat) (d : D) (ε : En) : ownG P i (.own d :: ε) = (P.contains i && ownG P (i + 1) ε) := rfl

theorem gEq_ii (i j : Int) : gEq (.int i) (.int j) = some (.bl (i == j)) := by simp [gEq, okq, sok, dep, deq]
theorem gNe_ii (i j : Int) : gNe (.int i) (.int j) = some (.bl (!(i == j))) := by simp [gNe, okq, sok, dep, deq]
/-- the walks over several -/
def e3 (t : Int × Int × Int) : D := .tup [.int t.1, .int t.2.1, .int t.2.2]
def e2 (t : Int × Int) : D := .tup [.int t.1, .int t.2]
theorem zip3_e (f s x : List Int) : zip3D (f.map .int) (s.map .int) (x.map .int) = (f.zip (s.zip x)).map e3 := by
  unfold zip3D
  induction f generalizing s x with
  | nil => rfl
  | cons a f ih =>
    cases s with
    | nil => rfl
    | cons b s =>
      cases x with
      | nil => rfl
      | cons c x =>
        simp only [List.map_cons, List.zipWith_cons_cons, List.zip_cons_cons, ih]
        rfl
theorem zip2_e (f s : List Int) : zip2D (f.map .int) (s.map .int) = (f.zip s).map e2 := by
  unfold zip2D
  induction f generalizing s with
  | nil => rfl
  | cons a f ih =>
    cases s with
    | nil => rfl
    | cons b s =>
      simp only [List.map_cons, List.zipWith_cons_cons, List.zip_cons_cons, ih]
      rfl
/-! ### loops -/
/-- one turn -/
def dStep (gg : D → En → Option En) (b : En → O Fl) (d : D) (ε : En) : O Fl :=
  match gg d ε with
  | some ε1 => b ε1
  | none => .bad
theorem dLoop_cons (gg : D → En → Option En) (b : En → O Fl) (d : D) (ds : List D) (ε : En) : dLoop gg b (d :: ds) ε = (dStep gg b d ε).bind (vTurn (dLoop gg b ds)) := by
  show (match gg d ε with | some ε1 => (b ε1).bind (vTurn (dLoop gg b ds)) | none => .bad) = _
  unfold dStep
  cases gg d ε <;> rfl
theorem dLoop_nil (gg : D → En → Option En) (b : En → O Fl) (ε : En) : dLoop gg b [] ε = .ok .nx ε := rfl
/-- the loop runs to its end -/
theorem dLoop_inv {gg : D → En → Option En} {b : En → O Fl} (Inv : Nat → En → Prop) : ∀ (ds : List D) (k : Nat) (ε : En), Inv k ε →
    (∀ i d ε, ds[i]? = some d → Inv (k + i) ε → ∃ ε2, dStep gg b d ε = .ok .nx ε2 ∧ Inv (k + i + 1) ε2) → ∃ ε', dLoop gg b ds ε = .ok .nx ε' ∧ Inv (k + ds.length) ε'
  | [], k, ε, h, _ => ⟨ε, rfl, h⟩
  | d :: ds, k, ε, h, st => by
    obtain ⟨ε2, e2, h2⟩ := st 0 d ε rfl h
    obtain ⟨ε', e', h'⟩ := dLoop_inv Inv ds (k + 1) ε2 h2 fun i d ε hi hk => by
      have := st (i + 1) d ε (by simpa using hi) (by rw [show k + (i + 1) = k + 1 + i by omega]; exact hk)
      rw [show k + (i + 1) + 1 = k + 1 + i + 1 by omega] at this
      exact this
    refine ⟨ε', ?_, by rw [List.length_cons, show k + (ds.length + 1) = k + 1 + ds.length by omega]; exact h'⟩
    rw [dLoop_cons, e2]
    exact e'
/-- from a start -/
theorem dLoop_from {gg : D → En → Option En} {b : En → O Fl} {ds : List D} {ε : En} (Inv : Nat → En → Prop) (h : Inv 0 ε)
    (st : ∀ i d ε, ds[i]? = some d → Inv i ε → ∃ ε2, dStep gg b d ε = .ok .nx ε2 ∧ Inv (i + 1) ε2) : ∃ ε', dLoop gg b ds ε = .ok .nx ε' ∧ Inv ds.length ε' := by
  obtain ⟨ε', e, h'⟩ := dLoop_inv Inv ds 0 ε h fun i d ε hi hk => by rw [Nat.zero_add] at hk ⊢; exact st i d ε hi hk
  rw [Nat.zero_add] at h'
  exact ⟨ε', e, h'⟩
/-- one turn of a comprehension: the item, if it is kept -/
def lcStep (gg : D → En → Option En) (ft : En → O Bool) (fe : En → O R) (vs : List Nat) (d : D) (ε : En) : Option (Option D × En) :=
  match gg d ε with
  | some ε1 => match ft ε1 with
    | .ok b ε2 => if b = true then match fe ε2 with
      | .ok r ε3 => match frz ε3 r with
        | some (y, ε4) => some (some y, wipeE ε4 vs)
        | none => none
      | _ => none
      else some (none, wipeE ε2 vs)
    | _ => none
  | none => none
theorem lcLoop_cons (gg : D → En → Option En) (ft : En → O Bool) (fe : En → O R) (vs : List Nat) (d : D) (ds : List D) (ε : En) (acc : List D) : lcLoop gg ft fe vs (d :: ds) ε acc = (match gg d ε with
    | some ε1 => match ft ε1 with
      | .ok true ε2 => match fe ε2 with
        | .ok r ε3 => match frz ε3 r with
          | some (y, ε4) => lcLoop gg ft fe vs ds (wipeE ε4 vs) (acc ++ [y])
          | none => .bad
        | _ => .bad
      | .ok false ε2 => lcLoop gg ft fe vs ds (wipeE ε2 vs) acc
      | _ => .bad
    | none => .bad) := rfl
theorem lcLoop_step {gg : D → En → Option En} {ft : En → O Bool} {fe : En → O R} {vs : List Nat} {d : D} {ds : List D} {ε ε' : En} {acc : List D} {o : Option D} (h : lcStep gg ft fe vs d ε = some (o, ε')) : lcLoop gg ft fe vs (d :: ds) ε acc = lcLoop gg ft fe vs ds ε' (acc ++ o.toList) := by
  unfold lcStep at h
  rw [lcLoop_cons]
  cases e1 : gg d ε with
  | none => simp only [e1] at h; cases h
  | some ε1 =>
    simp only [e1] at h ⊢
    cases e2 : ft ε1 with
    | bad => simp only [e2] at h; cases h
    | exn c ε2 => simp only [e2] at h; cases h
    | ok b ε2 =>
      simp only [e2] at h ⊢
      cases b with
      | false =>
        rw [if_neg (by decide)] at h
        cases h
        simp
      | true =>
        rw [if_pos rfl] at h
        cases e3 : fe ε2 with
        | bad => simp only [e3] at h; cases h
        | exn c ε3 => simp only [e3] at h; cases h
        | ok r ε3 =>
          simp only [e3] at h ⊢
          cases e4 : frz ε3 r with
          | none => simp only [e4] at h; cases h
          | some z =>
            obtain ⟨y, ε4⟩ := z
            simp only [e4] at h ⊢
            cases h
            simp
theorem lcLoop_map {gg : D → En → Option En} {ft : En → O Bool} {fe : En → O R} {vs : List Nat} {α : Type} (enc : α → D) (h : α → D) : ∀ (xs : List α) (ε : En) (acc : List D),
    (∀ x ∈ xs, lcStep gg ft fe vs (enc x) ε = some (some (h x), ε)) → lcLoop gg ft fe vs (xs.map enc) ε acc = .ok (acc ++ xs.map h) ε
  | [], ε, acc, _ => by simp [lcLoop]
  | x :: xs, ε, acc, st => by
    rw [List.map_cons, lcLoop_step (st x List.mem_cons_self), lcLoop_map enc h xs ε _ fun y hy => st y (List.mem_cons_of_mem _ hy)]
    simp
/-- with a test -/
theorem lcLoop_filter {gg : D → En → Option En} {ft : En → O Bool} {fe : En → O R} {vs : List Nat} {α : Type} (enc : α → D) (p : α → Bool) (h : α → D) : ∀ (xs : List α) (ε : En) (acc : List D),
    (∀ x ∈ xs, lcStep gg ft fe vs (enc x) ε = some (if p x = true then some (h x) else none, ε)) → lcLoop gg ft fe vs (xs.map enc) ε acc = .ok (acc ++ (xs.filter p).map h) ε
  | [], ε, acc, _ => by simp [lcLoop]
  | x :: xs, ε, acc, st => by
    rw [List.map_cons, lcLoop_step (st x List.mem_cons_self), lcLoop_filter enc p h xs ε _ fun y hy => st y (List.mem_cons_of_mem _ hy)]
    cases hp : p x with
    | true => rw [List.filter_cons_of_pos hp]; simp
    | false => rw [List.filter_cons_of_neg (by rw [hp]; simp)]; simp
/-- with states -/
theorem lcLoop_inv {gg : D → En → Option En} {ft : En → O Bool} {fe : En → O R} {vs : List Nat} (Inv : Nat → List D → En → Prop) : ∀ (ds : List D) (k : Nat) (ε : En) (acc : List D), Inv k acc ε →
    (∀ i d ε acc, ds[i]? = some d → Inv (k + i) acc ε → ∃ o ε', lcStep gg ft fe vs d ε = some (o, ε') ∧ Inv (k + i + 1) (acc ++ o.toList) ε') →
    ∃ acc' ε', lcLoop gg ft fe vs ds ε acc = .ok acc' ε' ∧ Inv (k + ds.length) acc' ε'
  | [], k, ε, acc, h, _ => ⟨acc, ε, rfl, h⟩
  | d :: ds, k, ε, acc, h, st => by
    obtain ⟨o, ε2, e2, h2⟩ := st 0 d ε acc rfl h
    obtain ⟨acc', ε', e', h'⟩ := lcLoop_inv Inv ds (k + 1) _ _ h2 fun i d ε acc hi hk => by
      have := st (i + 1) d ε acc (by simpa using hi) (by rw [show k + (i + 1) = k + 1 + i by omega]; exact hk)
      rw [show k + (i + 1) + 1 = k + 1 + i + 1 by omega] at this
      exact this
    refine ⟨acc', ε', ?_, by rw [List.length_cons, show k + (ds.length + 1) = k + 1 + ds.length by omega]; exact h'⟩
    rw [lcLoop_step e2]
    exact e'
theorem lcLoop_from {gg : D → En → Option En} {ft : En → O Bool} {fe : En → O R} {vs : List Nat} {ds : List D} {ε : En} (Inv : Nat → List D → En → Prop) (h : Inv 0 [] ε)
    (st : ∀ i d ε acc, ds[i]? = some d → Inv i acc ε → ∃ o ε', lcStep gg ft fe vs d ε = some (o, ε') ∧ Inv (i + 1) (acc ++ o.toList) ε') : ∃ acc' ε', lcLoop gg ft fe vs ds ε [] = .ok acc' ε' ∧ Inv ds.length acc' ε' := by
  obtain ⟨acc', ε', e, h'⟩ := lcLoop_inv Inv ds 0 ε [] h fun i d ε acc hi hk => by rw [Nat.zero_add] at hk ⊢; exact st i d ε acc hi hk
  rw [Nat.zero_add] at h'
  exact ⟨acc', ε', e, h'⟩
/-- while -/
theorem dWhile_succ (ft : En → O Bool) (b : En → O Fl) (n : Nat) (ε : En) : dWhile ft b (n + 1) ε = (ft ε).bind fun c ε1 => if c = true then (b ε1).bind (vTurn (dWhile ft b n)) else .ok .nx ε1 := rfl
end DL

/-! DL19: defs that call themselves -/
namespace DL
open PySem PySem.Spec PyProof.Rows L2
/-- nothing is promised -/
theorem fn_bad {P : Program} {w : World} {K : PySem.W.Frag} {mg : Str → Option Value} {base : Heap} {CX : CXT} {k : Nat} {f : Addr} {fd : FuncData} {ps : List Str} {T : Tab} {n : Nat} (hn : ps.length = n) : FnOk P w K mg base CX k f fd ps (spD K T n fun _ => .bad) :=
  ⟨fun vs H Q E h => h.1.trans hn.symm, fun A outer s H args us vs Q E _ _ _ _ h => by
    obtain ⟨_, F, ε, _, p⟩ := h
    exact p.elim⟩
end DL

/-! DL20: lists that are only lent: frozen while an expression is told, then owned again -/
namespace DL
open PySem PySem.Spec PyProof.Rows L2
/-- the slots bs frozen -/
def lendS (b : Bool) : Sl → Sl
  | .own d => if b = true then .fz d else .own d
  | s => s
def lendE (bs : List Nat) : Nat → En → En
  | _, [] => []
  | i, s :: ε => lendS (bs.contains i) s :: lendE bs (i + 1) ε
def flatO : D → Bool
  | .lst ds => ds.all flat
  | _ => false
/-- and given back -/
def backS (b : Bool) : Sl → Sl → Sl
  | .fz d, _ => .fz d
  | .no, _ => .no
  | .own d, s => if b = true then .own d else match s with
    | .own d' => if flatO d' = true then .own d' else .no
    | _ => .no
def backE (bs : List Nat) : Nat → En → En → En
  | i, s :: ε, s' :: ε' => backS (bs.contains i) s s' :: backE bs (i + 1) ε ε'
  | _, _, _ => []
def flatR : R → Bool
  | .fz d => flat d
  | .new (.lst ds) => ds.all flat
  | _ => false
def vLend (bs : List Nat) (ε : En) (o : O R) : O R :=
  match o with
  | .ok r ε' => if flatR r = true then .ok r (backE bs 0 ε ε') else .bad
  | _ => .bad
def dLend (bs : List Nat) (f : En → O R) : En → O R := fun ε => vLend bs ε (f (lendE bs 0 ε))
theorem lendE_length (bs : List Nat) : ∀ (i : Nat) (ε : En), (lendE bs i ε).length = ε.length
  | _, [] => rfl
  | i, s :: ε => by unfold lendE; rw [List.length_cons, lendE_length bs (i + 1) ε, List.length_cons]
/-- a slot of the lent ones -/
theorem lendE_get (bs : List Nat) : ∀ (i j : Nat) (ε : En), (lendE bs i ε)[j]? = (ε[j]?).map fun s => lendS (bs.contains (i + j)) s
  | _, _, [] => rfl
  | i, 0, s :: ε => rfl
  | i, j + 1, s :: ε => by unfold lendE; rw [List.getElem?_cons_succ, List.getElem?_cons_succ, lendE_get bs (i + 1) j ε, show i + 1 + j = i + (j + 1) by omega]
theorem backS_get {b : Bool} {s s' u : Sl} (e : backS b s s' = u) : (∃ d, u = .fz d ∧ s = .fz d) ∨ u = .no ∨ (∃ d, u = .own d ∧ s = .own d ∧ b = true) ∨ ∃ d d', u = .own d' ∧ s = .own d ∧ s' = .own d' ∧ b = false ∧ flatO d' = true := by
  cases s with
  | no => exact .inr (.inl e.symm)
  | fz d => exact .inl ⟨d, e.symm, rfl⟩
  | own d =>
    cases b with
    | true => exact .inr (.inr (.inl ⟨d, e.symm, rfl, rfl⟩))
    | false =>
      cases s' with
      | no => exact .inr (.inl e.symm)
      | fz d' => exact .inr (.inl e.symm)
      | own d' =>
        have e' : (if flatO d' = true then Sl.own d' else .no) = u := e
        by_cases h : flatO d' = true
        · rw [if_pos h] at e'
          exact .inr (.inr (.inr ⟨d, d', e'.symm, rfl, rfl, rfl, h⟩))
        · rw [if_neg h] at e'
          exact .inr (.inl e'.symm)
theorem backE_get (bs : List Nat) : ∀ (i j : Nat) (ε ε' : En) (s : Sl), (backE bs i ε ε')[j]? = some s →
    (∃ d, s = .fz d ∧ ε[j]? = some (.fz d)) ∨ s = .no ∨ (∃ d, s = .own d ∧ ε[j]? = some (.own d) ∧ bs.contains (i + j) = true) ∨ ∃ d d', s = .own d' ∧ ε[j]? = some (.own d) ∧ ε'[j]? = some (.own d') ∧ bs.contains (i + j) = false ∧ flatO d' = true
  | i, j, [], ε', s, h => by simp [backE] at h
  | i, j, _ :: _, [], s, h => by simp [backE] at h
  | i, 0, u :: ε, u' :: ε', s, h => by
    unfold backE at h
    have h : backS (bs.contains i) u u' = s := by simpa using h
    rcases backS_get h with ⟨d, z, z1⟩ | z | ⟨d, z, z1, z2⟩ | ⟨d, d', z, z1, z2, z3, z4⟩
    · exact .inl ⟨d, z, by rw [z1]; rfl⟩
    · exact .inr (.inl z)
    · exact .inr (.inr (.inl ⟨d, z, by rw [z1]; rfl, z2⟩))
    · exact .inr (.inr (.inr ⟨d, d', z, by rw [z1]; rfl, by rw [z2]; rfl, z3, z4⟩))
  | i, j + 1, u :: ε, u' :: ε', s, h => by
    unfold backE at h
    have := backE_get bs (i + 1) j ε ε' s (by simpa using h)
    rw [show i + 1 + j = i + (j + 1) by omega] at this
    simpa using this
theorem backE_length (bs : List Nat) : ∀ (i : Nat) (ε ε' : En), ε'.length = ε.length → (backE bs i ε ε').length = ε.length
  | i, [], ε', h => by
    have : ε' = [] := List.eq_nil_of_length_eq_zero h
    subst this; rfl
  | i, s :: ε, [], h => by simp at h
  | i, s :: ε, s' :: ε', h => by
    unfold backE
    rw [List.length_cons, backE_length bs (i + 1) ε ε' (by simpa using h), List.length_cons]
/-- a slot that owns nothing -/
def fzo : Option D → Sl
  | none => .no
  | some d => .fz d
theorem lend_fzo (b : Bool) (o : Option D) : lendS b (fzo o) = fzo o := by cases o <;> rfl
theorem back_fzo (b : Bool) (o : Option D) (s : Sl) : backS b (fzo o) s = fzo o := by cases o <;> rfl
theorem lend_fz (b : Bool) (d : D) : lendS b (.fz d) = .fz d := rfl
theorem lend_no (b : Bool) : lendS b .no = .no := rfl
theorem lend_own1 (d : D) : lendS true (.own d) = .fz d := rfl
theorem lend_own0 (d : D) : lendS false (.own d) = .own d := rfl
theorem back_fz (b : Bool) (d : D) (s : Sl) : backS b (.fz d) s = .fz d := rfl
theorem back_no (b : Bool) (s : Sl) : backS b .no s = .no := rfl
theorem back_own1 (d : D) (s : Sl) : backS true (.own d) s = .own d := rfl
theorem back_own0 (d d' : D) (h : flatO d' = true) : backS false (.own d) (.own d') = .own d' := if_pos h
theorem flat_ints (l : List Int) : (l.map D.int).all flat = true := by
  rw [List.all_map]
  exact List.all_eq_true.mpr fun _ _ => rfl
theorem flatO_ints (l : List Int) : flatO (.lst (l.map .int)) = true := flat_ints l
open Classical in
/-- the frozen heap with the lent objects -/
noncomputable def lendF (bs : List Nat) (F H : Hp) (σ : L2.St) (ε : En) : Hp := fun a => if ∃ (i : Nat) (d : D), bs.contains i = true ∧ ε[i]? = some (.own d) ∧ σ[i]? = some (some (.ref a)) then H a else F a
section
variable {K : PySem.W.Frag} {T : Tab} {bs : List Nat} {F H : Hp} {σ : L2.St} {ε : En}
def LentAt (bs : List Nat) (σ : L2.St) (ε : En) (a : Addr) : Prop := ∃ (i : Nat) (d : D), bs.contains i = true ∧ ε[i]? = some (.own d) ∧ σ[i]? = some (some (.ref a))
theorem lendF_at {a : Addr} (h : LentAt bs σ ε a) : lendF bs F H σ ε a = H a := if_pos h
theorem lendF_not {a : Addr} (h : ¬ LentAt bs σ ε a) : lendF bs F H σ ε a = F a := if_neg h
theorem lent_none (k : Ok K T F H σ ε) {a : Addr} (h : LentAt bs σ ε a) : F a = none := by
  obtain ⟨i, d, _, e, s⟩ := h
  obtain ⟨b, o, s', f, _, _⟩ := k.own i d e
  rw [s] at s'; cases s'; exact f
theorem lendF_same (k : Ok K T F H σ ε) : Same F (lendF bs F H σ ε) := fun a u e => by
  rw [lendF_not fun h => by rw [lent_none k h] at e; cases e]; exact e
theorem lend_ok (k : Ok K T F H σ ε) : Ok K T (lendF bs F H σ ε) H σ (lendE bs 0 ε) where
  sub := fun a u e => by
    by_cases h : LentAt bs σ ε a
    · rw [lendF_at h] at e; exact e
    · rw [lendF_not h] at e; exact k.sub _ _ e
  len := by rw [lendE_length]; exact k.len
  fz := fun i d e => by
    rw [lendE_get, Nat.zero_add] at e
    cases h : ε[i]? with
    | none => rw [h] at e; cases e
    | some s =>
      rw [h] at e
      cases s with
      | no => cases e
      | fz d' =>
        cases e
        obtain ⟨v, e1, r⟩ := k.fz i d h
        exact ⟨v, e1, Rp.mono (lendF_same k) _ _ r⟩
      | own d' =>
        by_cases hb : bs.contains i = true
        · simp only [Option.map_some, hb, lend_own1] at e
          cases e
          obtain ⟨a, o, e1, f, g, r⟩ := k.own i d h
          exact ⟨.ref a, e1, (r.mono (lendF_same k)).rp (Same.refl _) (by rw [lendF_at ⟨i, d, hb, h, e1⟩]; exact g)⟩
        · rw [Bool.not_eq_true] at hb
          simp only [Option.map_some, hb, lend_own0] at e
          cases e
  own := fun i d e => by
    rw [lendE_get, Nat.zero_add] at e
    cases h : ε[i]? with
    | none => rw [h] at e; cases e
    | some s =>
      rw [h] at e
      cases s with
      | no => cases e
      | fz d' => cases e
      | own d' =>
        by_cases hb : bs.contains i = true
        · simp only [Option.map_some, hb, lend_own1] at e
          cases e
        · have hb' := hb
          rw [Bool.not_eq_true] at hb'
          simp only [Option.map_some, hb', lend_own0] at e
          cases e
          obtain ⟨a, o, e1, f, g, r⟩ := k.own i d h
          refine ⟨a, o, e1, ?_, g, r.mono (lendF_same k)⟩
          rw [lendF_not]
          · exact f
          · rintro ⟨j, d2, hj, ej, sj⟩
            have := k.sep j i d2 d a ej h sj e1
            subst this
            exact hb hj
  sep := fun i j d d' a ei ej si sj => by
    rw [lendE_get, Nat.zero_add] at ei ej
    cases hi : ε[i]? with
    | none => rw [hi] at ei; cases ei
    | some s =>
      cases hj : ε[j]? with
      | none => rw [hj] at ej; cases ej
      | some t =>
        rw [hi] at ei
        rw [hj] at ej
        cases s with
        | no => cases ei
        | fz d' => cases ei
        | own d1 => cases t with
          | no => cases ej
          | fz d' => cases ej
          | own d2 => exact k.sep i j d1 d2 a hi hj si sj
theorem lend_own {a : Addr} (h : OwnAt σ (lendE bs 0 ε) a) : OwnAt σ ε a ∧ (∀ (k : Ok K T F H σ ε), ¬ LentAt bs σ ε a) := by
  obtain ⟨i, d, e, s⟩ := h
  rw [lendE_get, Nat.zero_add] at e
  cases hi : ε[i]? with
  | none => rw [hi] at e; cases e
  | some u =>
    rw [hi] at e
    cases u with
    | no => cases e
    | fz d' => cases e
    | own d1 =>
      by_cases hb : bs.contains i = true
      · simp only [Option.map_some, hb, lend_own1] at e
        cases e
      · refine ⟨⟨i, d1, hi, s⟩, fun k ⟨j, d2, hj, ej, sj⟩ => ?_⟩
        have := k.sep j i d2 d1 a ej hi sj s
        subst this
        exact hb hj
open Classical in
/-- taken out of the frozen heap again -/
noncomputable def takeF (bs : List Nat) (F2 : Hp) (σ : L2.St) (ε : En) : Hp := fun a => if LentAt bs σ ε a then none else F2 a
theorem takeF_at {F2 : Hp} {a : Addr} (h : LentAt bs σ ε a) : takeF bs F2 σ ε a = none := if_pos h
theorem takeF_not {F2 : Hp} {a : Addr} (h : ¬ LentAt bs σ ε a) : takeF bs F2 σ ε a = F2 a := if_neg h
theorem flatO_rp {F1 F2 : Hp} {d : D} {o : HO} (h : flatO d = true) (r : RpO K T F1 d o) : RpO K T F2 d o := by
  cases d with
  | lst ds =>
    obtain ⟨vs, rfl, r⟩ := rpO_lst.mp r
    exact rpO_lst.mpr ⟨vs, rfl, flats_rp h r⟩
  | _ => cases h
theorem lend_back {F2 H2 : Hp} {ε2 : En} (k : Ok K T F H σ ε) (k2 : Ok K T F2 H2 σ ε2) (x : Ext (lendF bs F H σ ε) H σ (lendE bs 0 ε) F2 H2 σ ε2) :
    Ok K T (takeF bs F2 σ ε) H2 σ (backE bs 0 ε ε2) ∧ Ext F H σ ε (takeF bs F2 σ ε) H2 σ (backE bs 0 ε ε2) := by
  have sF : Same F (takeF bs F2 σ ε) := fun a u h => by
    rw [takeF_not fun z => by rw [lent_none k z] at h; cases h]
    exact x.fs _ _ (lendF_same k _ _ h)
  have own3 : ∀ (i : Nat) (d : D), (backE bs 0 ε ε2)[i]? = some (.own d) → (ε[i]? = some (.own d) ∧ bs.contains i = true) ∨ (∃ d0, ε[i]? = some (.own d0)) ∧ ε2[i]? = some (.own d) ∧ bs.contains i = false ∧ flatO d = true := fun i d h => by
    rcases backE_get bs 0 i ε ε2 _ h with ⟨d', z, _⟩ | z | ⟨d', z, z1, z2⟩ | ⟨d0, d', z, z1, z2, z3, z4⟩
    · cases z
    · cases z
    · cases z; rw [Nat.zero_add] at z2; exact .inl ⟨z1, z2⟩
    · cases z; rw [Nat.zero_add] at z3; exact .inr ⟨⟨d0, z1⟩, z2, z3, z4⟩
  have own30 : ∀ (i : Nat) (d : D), (backE bs 0 ε ε2)[i]? = some (.own d) → ∃ d0, ε[i]? = some (.own d0) := fun i d h => by
    rcases own3 i d h with ⟨z, _⟩ | ⟨z, _⟩
    · exact ⟨d, z⟩
    · exact z
  refine ⟨⟨fun a u h => ?_, ?_, fun i d h => ?_, fun i d h => ?_, fun i j d d' a ei ej si sj => ?_⟩, ⟨sF, fun a o h n => ?_, x.ht, fun a h => ?_, fun a h => ?_⟩⟩
  · by_cases z : LentAt bs σ ε a
    · rw [takeF_at z] at h; cases h
    · rw [takeF_not z] at h; exact k2.sub _ _ h
  · rw [backE_length bs 0 ε ε2 (by rw [← k2.len, ← k.len])]; exact k.len
  · rcases backE_get bs 0 i ε ε2 _ h with ⟨d', z, z1⟩ | z | ⟨d', z, z1, z2⟩ | ⟨d0, d', z, z1, z2, z3, z4⟩
    · cases z
      obtain ⟨v, e1, r⟩ := k.fz i d z1
      exact ⟨v, e1, Rp.mono sF _ _ r⟩
    · cases z
    · cases z
    · cases z
  · rcases own3 i d h with ⟨z, zb⟩ | ⟨⟨d0, z0⟩, z, zb, zf⟩
    · obtain ⟨a, o, e1, f, g, r⟩ := k.own i d z
      have hl : LentAt bs σ ε a := ⟨i, d, zb, z, e1⟩
      refine ⟨a, o, e1, takeF_at hl, ?_, r.mono sF⟩
      refine k2.sub _ _ (x.fs _ _ ?_)
      rw [lendF_at hl]; exact g
    · obtain ⟨a, o, e1, f, g, r⟩ := k2.own i d z
      refine ⟨a, o, e1, ?_, g, flatO_rp zf r⟩
      by_cases hl : LentAt bs σ ε a
      · exact takeF_at hl
      · rw [takeF_not hl]; exact f
  · obtain ⟨d1, h1⟩ := own30 i d ei
    obtain ⟨d2, h2⟩ := own30 j d' ej
    exact k.sep i j d1 d2 a h1 h2 si sj
  · exact x.hk a o h fun z => n (lend_own (K := K) (T := T) (F := F) (H := H) z).1
  · by_cases z : LentAt bs σ ε a
    · rw [takeF_at z] at h; exact absurd rfl h
    · rw [takeF_not z] at h
      rcases x.fn a h with q | q | q
      · rw [lendF_not z] at q; exact .inl q
      · exact .inr (.inl q)
      · exact .inr (.inr (lend_own (K := K) (T := T) (F := F) (H := H) q).1)
  · obtain ⟨i, d, ei, si⟩ := h
    obtain ⟨d0, h0⟩ := own30 i d ei
    exact .inl ⟨i, d0, h0, si⟩
theorem lend_use {W : WX} {f : En → O R} {Q : VK} (q : tD K T W (dLend bs f) σ H Q) : tD K T W f σ H Q := by
  obtain ⟨F, ε, k, p⟩ := q
  refine ⟨lendF bs F H σ ε, lendE bs 0 ε, lend_ok k, ?_⟩
  unfold dLend vLend at p
  cases e : f (lendE bs 0 ε) with
  | bad => simp only [e] at p; exact p
  | exn c ε2 => simp only [e] at p; exact p.elim
  | ok r ε2 =>
    simp only [e] at p
    split at p
    · rename_i hr
      · intro F2 H2 k2 x2 v hv hn
        obtain ⟨k3, x3⟩ := lend_back k k2 x2
        refine p (takeF bs F2 σ ε) H2 k3 x3 v ?_ hn
        cases r with
        | fz d => exact flat_rp hr hv
        | «at» i => cases hr
        | new d =>
          cases d with
          | lst ds =>
            obtain ⟨a, o, rfl, f1, g1, r1, n1⟩ := hv
            refine ⟨a, o, rfl, ?_, g1, flatO_rp hr r1, fun z => ?_⟩
            · by_cases hl : LentAt bs σ ε a
              · exact takeF_at hl
              · rw [takeF_not hl]; exact f1
            · have ha := hn a (by simp [newA])
              obtain ⟨i, d, ei, si⟩ := z
              rcases backE_get bs 0 i ε ε2 _ ei with ⟨_, z, _⟩ | z | ⟨_, z, z1, z2⟩ | ⟨d0, _, z, z1, _⟩
              · cases z
              · cases z
              · obtain ⟨c, o2, s2, _, g2, _⟩ := k.own i _ z1
                rw [si] at s2; cases s2
                rw [ha] at g2; cases g2
              · obtain ⟨c, o2, s2, _, g2, _⟩ := k.own i _ z1
                rw [si] at s2; cases s2
                rw [ha] at g2; cases g2
          | _ => cases hr
    · exact p.elim
end
theorem de_lend {X : Cx} {T : Tab} {W : WX} {e : Expr} {f : En → O R} (bs : List Nat) (h : DE X T W e f) : DE X T W e (dLend bs f) := PE.imp h fun _ _ _ q => lend_use q
section
variable {X : Cx} {T : Tab} {W : WX} {elt tg iter : Expr} {ifs : List Expr} {gg : D → En → Option En} {ft : En → O Bool} {fe : En → O R} {tgs : List Nat} {P : List Nat} {pos : Pos}
theorem ds_setLcL {own : List (Str × Nat)} {scope : Scope} {fi : En → O (List D)} {i : Nat} {y : Str} {py spos : Pos} (bs : List Nat) (hc : X.calm = true) (hN : X.N.Nodup) (hsw : swapsWith (.ListComp elt [⟨tg, iter, ifs, 0⟩] scope pos) (some (.Name y py)) spos.line X.env = pure true) (hi : DI X T W tg iter fi) (ok : BlkOk X.N X.env.scope scope own)
    (hg : ∀ (s : Shared) (H : Hp) (C : Addr) (cl : List (Str × Addr)) (fp : List Addr), DG (X.blk s H scope (compEnvC scope cl C X.env) fp) T tgs tg gg) (ht : ∀ (s : Shared) (H : Hp) (C : Addr) (cl : List (Str × Addr)) (fp : List Addr), DTs (X.blk s H scope (compEnvC scope cl C X.env) fp) T W0 ifs ft)
    (he : ∀ (s : Shared) (H : Hp) (C : Addr) (cl : List (Str × Addr)) (fp : List Addr), DE (X.blk s H scope (compEnvC scope cl C X.env) fp) T W0 elt fe) (hy : X.N[i]? = some y := by rfl) (hyl : X.env.scope.names.lookup y = some .local := by rfl) (hP : i ∉ P := by decide) (htg : ∀ j ∈ tgs, j ∈ own.map (·.2) := by decide) (hs : ∀ x, foldedSetIterable iter X.env x = pure x := by intro _; rfl) :
    DS X T W P (.Assign [.Name y py] (.ListComp elt [⟨tg, iter, ifs, 0⟩] scope pos) spos) (dSet i (dLend bs (dLC fi gg ft fe (own.map (·.2))))) := by
  refine PS.imp (ps_setLc (te := tD X.K T W0 fe) (g := tDG X.K T tgs gg) (tt := tDT X.K T W0 ft) hc hN hy hyl hsw hi ok hg ht he hs) fun D σ H q => ?_
  have := set_use (te := tC .non) hP q
  exact lc_use (K := X.K) htg (lend_use this)
end
end DL

/-! DL21: texts of small numbers: str(i), f"{i} up" -/
namespace DL
open PySem PySem.Spec PyProof.Rows L2
/-- a number as a text -/
def txt (i : Int) : Str := toString i
theorem txt_all : ∀ n : Nat, n < 199 → ((txt ((n : Int) - 99)).length ≤ 3 ∧ PyData.strOk (txt ((n : Int) - 99)) = true) := by decide +kernel
theorem txt_len {i : Int} (h : i.natAbs ≤ 99) : (txt i).length ≤ 3 := by
  have := (txt_all (i + 99).toNat (by omega)).1
  rw [show (((i + 99).toNat : Nat) : Int) - 99 = i by omega] at this
  exact this
theorem txt_ok {i : Int} (h : i.natAbs ≤ 99) : PyData.strOk (txt i) = true := by
  have := (txt_all (i + 99).toNat (by omega)).2
  rw [show (((i + 99).toNat : Nat) : Int) - 99 = i by omega] at this
  exact this
theorem log_small {i : Int} (h : i.natAbs ≤ 99) : i.natAbs.log2 < 1920 := Nat.lt_of_le_of_lt (Nat.log2_le_self _) (by omega)
theorem strOk_app (x y : Str) : PyData.strOk (x ++ y) = (PyData.strOk x && PyData.strOk y) := by
  show (x.cps ++ y.cps).all _ = _
  rw [Array.all_append]; rfl
theorem len_app (x y : Str) : (x ++ y).length = x.length + y.length := by
  show (x.cps ++ y.cps).size = _
  rw [Array.size_append]; rfl
section
variable {X : Cx} {T : Tab} {W : WX} {e a b c : Expr} {es : List Expr} {f fa fb fc : En → O R} {fs : En → O (List R)} {pos p : Pos}
/-- str(i) -/
def gStr : List D → Option An
  | [.int i] => if i.natAbs ≤ 99 then some (.fz (.str (txt i))) else none
  | _ => none
theorem fn_str {K : PySem.W.Frag} : FnA K T gStr (fun xs H Q => ∃ i, xs = [.int i] ∧ i.natAbs.log2 < 1920 ∧ Q (.str (toString i)) H) := fun ds a vs F H Q e r s q => by
  unfold gStr at e
  split at e
  · rename_i i
    split at e
    · rename_i h
      cases e
      obtain ⟨v, rfl, r1⟩ := rpis1 r
      exact ⟨i, by rw [rpi_int r1], log_small h, q _ (rp_str.mpr rfl)⟩
    · cases e
  · cases e
theorem de_strF (gl : Gl X "str") (hm : X.mg "str" = none) (ha : DA X T W [e] fs) (he : starEach [e] X.env = (false, eval e X.env) :: starEach [] X.env := by rfl) : DE X T W (.Call (.Name "str" p) [e] [] pos) (dFn gStr fs) := de_fnTy call_str_int fn_str gl hm ha (he := he)

/-! ### f-strings -/
def tDP (K : PySem.W.Frag) (T : Tab) (W : WX) (q : En → O Str) : TE := fun σ H Q => ∃ F ε, Ok K T F H σ ε ∧ Po K T W F H σ ε (q ε) (fun y _ _ H' => Q (.str y) H')
abbrev DP (X : Cx) (T : Tab) (W : WX) (e : Expr) (q : En → O Str) : Prop := PE X e (tDP X.K T W q)
def dLit (y : Str) : En → O Str := fun ε => if y.length ≤ 100 then .ok y ε else .bad
def vFmt (ε : En) (r : R) : O Str :=
  match res ε r with
  | some (.int i) => if i.natAbs ≤ 99 then .ok (txt i) ε else .bad
  | some (.str y) => if y.length ≤ 100 then .ok y ε else .bad
  | _ => .bad
def dFmt (f : En → O R) : En → O Str := fun ε => (f ε).bind fun r ε1 => vFmt ε1 r
theorem dp_lit {y : Str} {j : Nat} : DP X T W (.Constant (.str y) j pos) (dLit y) := by
  refine PE.imp pe_str fun σ H Q q => ?_
  obtain ⟨F, ε, k, p⟩ := q
  unfold dLit at p
  split at p
  · exact p F H k Ext.refl
  · exact p.elim
theorem dp_fmt (he : DE X T W e f) : DP X T W (.FormattedValue e (-1) none pos) (dFmt f) := by
  refine PE.imp (pe_fmt he) fun σ H Q q => ?_
  obtain ⟨F, ε, k, p⟩ := q
  refine tD_use (g := fun r ε1 => vFmt ε1 r) k Ext.refl p fun v F1 H1 r ε1 k1 x1 _ q1 n1 p1 => ?_
  unfold vFmt at p1
  split at p1
  · rename_i i e1
    split at p1
    · rename_i h
      exact .inr ⟨i, rp_int.mp (res_rp k1 q1 e1), log_small h, p1 F1 H1 k1 x1⟩
    · exact p1.elim
  · rename_i y e1
    split at p1
    · rename_i h
      exact .inl ⟨y, rp_str.mp (res_rp k1 q1 e1), line1M (by omega), p1 F1 H1 k1 x1⟩
    · exact p1.elim
  · exact p1.elim
/-- each part is short -/
def Short (q : En → O Str) : Prop := ∀ ε y ε', q ε = .ok y ε' → y.length ≤ 100
theorem short_lit {y : Str} : Short (dLit y) := fun ε z ε' e => by
  unfold dLit at e
  split at e
  · rename_i h; cases e; exact h
  · cases e
theorem short_fmt : Short (dFmt f) := fun ε y ε' e => by
  unfold dFmt at e
  cases e1 : f ε with
  | bad => rw [e1] at e; cases e
  | exn c ε1 => rw [e1] at e; cases e
  | ok r ε1 =>
    rw [e1] at e
    have e : vFmt ε1 r = .ok y ε' := e
    unfold vFmt at e
    split at e
    · split at e
      · rename_i h; cases e; have := txt_len h; omega
      · cases e
    · split at e
      · rename_i h; cases e; exact h
      · cases e
    · cases e
def dJs : List (En → O Str) → Str → En → O Str
  | [], acc, ε => .ok acc ε
  | q :: qs, acc, ε => (q ε).bind fun y ε1 => dJs qs (acc ++ y) ε1
def dJoin (qs : List (En → O Str)) : En → O R := fun ε => (dJs qs Str.empty ε).bind fun y ε1 => .ok (.fz (.str y)) ε1
inductive DJ (X : Cx) (T : Tab) (W : WX) : List Expr → List (En → O Str) → Prop where
  | nil : DJ X T W [] []
  | cons {e : Expr} {q : En → O Str} {es : List Expr} {qs : List (En → O Str)} (h : DP X T W e q) (s : Short q) (r : DJ X T W es qs) : DJ X T W (e :: es) (q :: qs)
theorem DJ.pj {qs : List (En → O Str)} (h : DJ X T W es qs) : PJ X es (qs.map (tDP X.K T W)) ∧ ∀ q ∈ qs, Short q := by
  induction h with
  | nil => exact ⟨.nil, fun q hq => by simp at hq⟩
  | cons h s _ ih => exact ⟨.cons h ih.1, fun q hq => by
      rcases List.mem_cons.mp hq with z | z
      · rw [z]; exact s
      · exact ih.2 q z⟩
theorem js_use {K : PySem.W.Frag} {F0 H0 : Hp} {σ : L2.St} {ε0 : En} {Q : VK} : ∀ (qs : List (En → O Str)) (acc : Str) (F H : Hp) (ε : En), (∀ q ∈ qs, Short q) → acc.length + 100 * qs.length ≤ 1000000 → Ok K T F H σ ε → Ext F0 H0 σ ε0 F H σ ε →
    Po K T W F0 H0 σ ε0 ((dJs qs acc ε).bind fun y ε1 => (O.ok (R.fz (DL.D.str y)) ε1 : O R)) (SE K T H0 σ Q) → tJs (qs.map (tDP K T W)) acc σ H fun out H1 => Q (.str out) H1
  | [], acc, F, H, ε, _, _, k, x, p => SE.flat (H' := H) k x p rfl (rp_str.mpr rfl)
  | q :: qs, acc, F, H, ε, hs, hl, k, x, p => by
    refine ⟨F, ε, k, ?_⟩
    unfold dJs at p
    cases e : q ε with
    | bad => rw [e] at p; exact p
    | exn c ε1 =>
      rw [e] at p
      exact fun F1 H1 k1 x1 => p F1 H1 k1 (x.trans x1)
    | ok y ε1 =>
      rw [e] at p
      intro F1 H1 k1 x1
      have hy := hs q List.mem_cons_self ε y ε1 e
      rw [List.length_cons] at hl
      refine ⟨y, rfl, line1M (by rw [len_app]; omega), js_use qs (acc ++ y) F1 H1 ε1 (fun q hq => hs q (List.mem_cons_of_mem _ hq)) (by rw [len_app]; omega) k1 (x.trans x1) p⟩
theorem de_join {v1 v2 : Expr} {rest : List Expr} {qs : List (En → O Str)} (h : DJ X T W (v1 :: v2 :: rest) qs) (hl : qs.length ≤ 1000 := by decide) : DE X T W (.JoinedStr (v1 :: v2 :: rest) pos) (dJoin qs) := by
  refine PE.imp (pe_joined h.pj.1) fun σ H Q q => ?_
  obtain ⟨F, ε, k, p⟩ := q
  exact js_use qs Str.empty F H ε h.pj.2 (by show 0 + _ ≤ _; omega) k Ext.refl p
end
end DL

/-! DL22: x += i, x *= i -/
namespace DL
open PySem PySem.Spec PyProof.Rows L2
section
variable {X : Cx} {T : Tab} {W : WX} {e a b c : Expr} {es : List Expr} {f fa fb fc : En → O R} {fs : En → O (List R)} {pos p : Pos} {P : List Nat}
def gAddI := gII tt2 fun i j => .int (i + j)
def gMulI := gII mulOk fun i j => .int (i * j)
theorem op2_addI {K : PySem.W.Frag} : Op2 K T gAddI (rI0 fun i j => .int (i + j)) := fun d1 d2 d x y H Q e r1 r2 q => by
  obtain ⟨h1, h2⟩ := op2_ii (K := K) (T := T) (C := tt2) (C' := fun _ _ => True) (f := fun i j => D.int (i + j)) (f' := fun i j => V.int (i + j)) (fun _ _ _ => trivial) (fun _ _ _ => rp_int.mpr rfl) (fun _ _ => rfl) d1 d2 d x y H Q e r1 r2 q
  exact ⟨h1, rI0_of h2⟩
theorem op2_mulI {K : PySem.W.Frag} : Op2 K T gMulI (rI CMul fun i j => .int (i * j)) := op2_ii (fun i j h => by
    unfold mulOk at h
    rw [Bool.or_eq_true, decide_eq_true_eq, decide_eq_true_eq] at h
    rcases h with h | h
    · exact .inl (by omega)
    · exact .inr (by omega)) (fun _ _ _ => rp_int.mpr rfl) (fun _ _ => rfl)
theorem ds_augAdd {i : Nat} {x : Str} {pos' : Pos} (hN : X.N.Nodup) (he : DE X T W e f) (hi : X.N[i]? = some x := by rfl) (hx : Loc X.env.scope x := by first | exact Or.inl rfl | exact Or.inr rfl) (hP : i ∉ P := by decide)
    (hf : X.fn x = true ∨ X.env.scope.names.lookup x = some .local := by first | exact .inl rfl | exact .inr rfl) : DS X T W P (.AugAssign (.Name x pos') .Add e pos) (dAug i gAddI f) := ds_aug hN iop_add op2_addI he hi hx hP hf
theorem ds_augMult {i : Nat} {x : Str} {pos' : Pos} (hN : X.N.Nodup) (he : DE X T W e f) (hi : X.N[i]? = some x := by rfl) (hx : Loc X.env.scope x := by first | exact Or.inl rfl | exact Or.inr rfl) (hP : i ∉ P := by decide)
    (hf : X.fn x = true ∨ X.env.scope.names.lookup x = some .local := by first | exact .inl rfl | exact .inr rfl) : DS X T W P (.AugAssign (.Name x pos') .Mult e pos) (dAug i gMulI f) := ds_aug hN iop_mul op2_mulI he hi hx hP hf
end
end DL

/-! DL23: a for statement in a generator def -/
namespace DL
open PySem PySem.Spec PyProof.Rows L2 GenW
section
variable {M : Model} {A : Around} {R : GenEnd} {Y : Protocol} {n : Nat} {s₀ : Shared} {c : Code} {fs : List Frame} {s : Shared} {env : Env}
  {K : Flow → Sem PySem.Fin} {J : Value → Sem PySem.Fin} {gd : Bool → Bool} {lv : List Value → List Value}
theorem segFor {target iter : Expr} {body : List Stmt} {pos : Pos}
    (h : wpAny M (A.over c fs) (eval iter env) (fun x s1 => wpAny M (A.over c fs) (pyIter x) (fun it s2 => ∀ p, Seg M A R Y n s₀ (.forLoop target it body [] env) (M.den (.forLoop target it body [] env))
        (.ret (fun r => ((match r with | .ok f => (.pure f : Sem Flow) | .error e => .raise e).onRaise (cameBack env)).wrap K J gd lv) none (gd false) (lv []) c p [] :: fs) s2)
      (fun x s' => Seg M A R Y n s₀ c (J x) fs s') s1) (fun x s' => Seg M A R Y n s₀ c (J x) fs s') s)
    (hs : ∀ x, foldedSetIterable iter env x = pure x := by intro _; rfl) :
    Seg M A R Y n s₀ c ((exec (.For target iter body [] pos) env).wrap K J gd lv) fs s := by
  rw [exec_For, Sem.bind_eq_wrap', Sem.wrap_wrap]
  refine seg_wrap (wpAny_standAt ?_)
  rw [Sem.bind_eq_wrap', Sem.wrap_wrap]
  refine seg_wrap (wpAny_mono h (fun v s1 h1 => ?_) fun _ _ x => x)
  rw [Sem.bind_eq_wrap', Sem.wrap_wrap]
  refine seg_wrap (wpAny_of_eq (hs v) ?_)
  rw [Sem.bind_eq_wrap', Sem.wrap_wrap]
  refine seg_wrap (wpAny_standAt ?_)
  rw [Sem.bind_eq_wrap', Sem.wrap_wrap]
  refine seg_wrap (wpAny_holding (wpAny_mono h1 (fun it s2 h2 => ?_) fun _ _ x => x))
  exact seg_call h2
end
section
variable {prog : Program} {w : World} {A : Around} {R : GenEnd} {Y : Protocol} {n : Nat} {s₀ : Shared} {fs : List Frame} {s : Shared} {env : Env}
/-- what a turn does with an exception -/
def turnX (env : Env) (x : Value) : Sem PySem.Fin := (do noteFrame x env; theTreesLotGoes x : Sem Unit).wrap (fun _ => .raise x) .raise id id
theorem segForLoop {target : Expr} {it : Value} {body : List Stmt}
    (h : wpAny (model prog w) (A.over (.forLoop target it body [] env) fs) (pyNext it) (fun r s1 => match r with
        | none => Seg (model prog w) A R Y n s₀ (.forLoop target it body [] env) (.pure (.again (.block [] env))) fs s1
        | some v => wpAny (model prog w) (A.over (.forLoop target it body [] env) fs) (letOwnedTupleGo target it v) (fun _ s2 => wpAny (model prog w) (A.over (.forLoop target it body [] env) fs) (assign target env v) (fun _ s3 =>
            Seg (model prog w) A R Y n s₀ (.forLoop target it body [] env) ((execs body env).wrap (fun f => match f with
              | .next | .cont => .pure (.again (.forLoop target it body [] env))
              | .brk => .pure (.done .next)
              | .ret v => .pure (.done (.ret v))) (turnX env) id id) fs s3)
            (fun x s' => Seg (model prog w) A R Y n s₀ (.forLoop target it body [] env) (turnX env x) fs s') s2) (fun x s' => Seg (model prog w) A R Y n s₀ (.forLoop target it body [] env) (turnX env x) fs s') s1)
      (fun x s' => Seg (model prog w) A R Y n s₀ (.forLoop target it body [] env) (turnX env x) fs s') s) :
    Seg (model prog w) A R Y n s₀ (.forLoop target it body [] env) ((model prog w).den (.forLoop target it body [] env)) fs s := by
  have hX : ∀ x : Value, (do noteFrame x env; theTreesLotGoes x : Sem Unit).bind (fun _ => (Sem.raise x : Sem PySem.Fin)) = turnX env x := fun x => Sem.bind_eq_wrap _ _
  show Seg _ A R Y n s₀ _ ((forTurn target it body [] env).onRaise (fun x => do noteFrame x env; theTreesLotGoes x)) fs s
  unfold forTurn
  rw [Sem.onRaise_eq_wrap, Sem.bind_eq_wrap', Sem.wrap_wrap]
  refine seg_wrap (wpAny_standAt ?_)
  rw [Sem.bind_eq_wrap', Sem.wrap_wrap]
  refine seg_wrap (wpAny_onRaise (wpAny_mono h (fun r s1 h1 => ?_) fun x s' hx => wpAny_standAt ?_))
  · cases r with
    | none => exact h1
    | some v =>
      show Seg _ _ _ _ _ _ _ (Sem.wrap _ _ _ _ (Bind.bind _ _)) _ _
      rw [Sem.bind_eq_wrap', Sem.wrap_wrap]
      refine seg_wrap (wpAny_mono h1 (fun _ s2 h2 => ?_) fun x s' hx => by first | exact hx | (rw [← hX] at hx; exact hx))
      rw [Sem.bind_eq_wrap', Sem.wrap_wrap]
      refine seg_wrap (wpAny_mono h2 (fun _ s3 h3 => ?_) fun x s' hx => by first | exact hx | (rw [← hX] at hx; exact hx))
      rw [Sem.bind_eq_wrap', Sem.wrap_wrap]
      rw [Sem.wrap_congr (execs body env) _ _ (K' := fun f => match f with
              | .next | .cont => .pure (.again (.forLoop target it body [] env))
              | .brk => .pure (.done .next)
              | .ret v => .pure (.done (.ret v))) (H' := turnX env) (fun f => by cases f <;> rfl) (fun e => by first | rfl | exact hX e)]
      exact h3
  · first | exact hx | (rw [← hX] at hx; exact hx)
theorem segBlock (h : Seg (model prog w) A R Y n s₀ (.block [] env) (.pure (.done .next)) fs s) : Seg (model prog w) A R Y n s₀ (.block [] env) ((model prog w).den (.block [] env)) fs s := by
  first
    | exact h
    | (show Seg _ _ _ _ _ _ _ _ _ _; exact h)
end
end DL

/-! DL24: the rule for a for statement in a generator def -/
namespace DL
open PySem PySem.Spec PyProof.Rows L2 GenW
def tGFor (wi : TI) (g : TG) (tb : TGn) : TGn := fun D ys σ H => wi σ H fun J H1 => ∃ W : Nat → Nat → List V → L2.St → Hp → Prop, (∃ m, W 0 m ys σ H1) ∧ ∀ i m ys σ H, W i m ys σ H →
  (J.stop i H ∧ D.nx ys σ H) ∨ (J.go i H ∧ ∃ N : List V → L2.St → Hp → Prop, (∀ ys' σ' H', N ys' σ' H' → ∃ m', m' < m ∧ W (i + 1) m' ys' σ' H') ∧ ∀ x H', J.yld i H x H' → g x σ H' fun σ2 H2 => tb { D with nx := N, ct := N, bk := D.nx } ys σ2 H2)
section
variable {X : Cx}
theorem gs_for {tg iter : Expr} {body : List Stmt} {wi : TI} {g : TG} {tb : TGn} {pos : Pos} (hp : PassesOwn (model X.prog X.w) X.A X.env X.xe) (hc : X.calm = true) (hi : PI X tg iter wi) (hg : PG X tg g) (hb : GSs X body tb)
    (hs : ∀ x, foldedSetIterable iter X.env x = pure x := by intro _; rfl) : GS X (.For tg iter body [] pos) (tGFor wi g tb) := by
  refine ⟨fun A S ip R n ys s₀ c fs K J gd lv s σ H D gc hn k hI ht => ?_⟩
  obtain ⟨acc0, cc0, r0, I0⟩ := hI
  refine segFor ?_ hs
  rw [gc.over]
  refine wpAny_mono (hi.run _ s σ H _ I0 ht) (fun v s1 h1 => ?_) fun x s' hx => k.exc n s₀ x s' hx
  refine wpAny_mono h1 (fun itv s2 h2 => ?_) fun x s' hx => k.exc n s₀ x s' hx
  obtain ⟨it, fp, tn, JJ, H2, e, I2, T, st2, f2, W, ⟨m0, w0⟩, turn⟩ := h2
  subst e
  intro p
  have gl := fun (kk : Result → Sem PySem.Fin) => gc_loop (k := kk) (c' := .forLoop tg (.ref it) body [] X.env) (l := lv []) (kp := []) (p := p) gc rfl rfl
  have fpok : ∀ (acc : Array Value) (cc : Nat) (H' : Hp), (∀ b ∈ fp, H' b = none) → ∀ b ∈ fp, FpOk X ((S, lstObj acc cc) :: ip) H' b := fun acc cc H' hn b hb => by
    obtain ⟨z0, z1, z2, z3, z4, z5⟩ := f2 b hb
    refine ⟨hn b hb, z1, z2, z3, z4, fun q hq => ?_⟩
    rcases List.mem_append.mp hq with hq | hq
    · exact z5 q (List.mem_append_left _ hq)
    · rcases List.mem_cons.mp hq with hq | hq
      · rw [hq]
        exact z5 (S, lstObj acc0 cc0) (List.mem_append_right _ List.mem_cons_self)
      · exact z5 q (List.mem_append_right _ (List.mem_cons_of_mem _ hq))
  have fpS : ∀ b ∈ fp, b ≠ S := fun b hb e => by
    obtain ⟨z0, z1, z2, z3, z4, z5⟩ := f2 b hb
    exact z5 (S, lstObj acc0 cc0) (List.mem_append_right _ List.mem_cons_self) e.symm
  have loop : ∀ (m i n : Nat) (ys : List V) (s₀ s : Shared) (σ : L2.St) (H : Hp), n + ys.length = sizeLine → W i m ys σ H → GI X S ip ys σ H s → tn i s.heap → (∀ b ∈ fp, H b = none) →
      Seg (model X.prog X.w) A R (GY X S) n s₀ (.forLoop tg (.ref it) body [] X.env) ((model X.prog X.w).den (.forLoop tg (.ref it) body [] X.env))
        (.ret (fun r => ((match r with | .ok f => (.pure f : Sem Flow) | .error e => .raise e).onRaise (cameBack X.env)).wrap K J gd lv) none (gd false) (lv []) c p [] :: fs) s := by
    intro m
    induction m using Nat.strongRecOn with
    | ind m ih =>
      intro i n ys s₀ s σ H hn w hI st fr
      have ee : ∀ (n : Nat) (s₀ : Shared) (x : Value) (s' : Shared), X.xe x s' → Seg (model X.prog X.w) A R (GY X S) n s₀ (.forLoop tg (.ref it) body [] X.env) (turnX X.env x)
          (.ret (fun r => ((match r with | .ok f => (.pure f : Sem Flow) | .error e => .raise e).onRaise (cameBack X.env)).wrap K J gd lv) none (gd false) (lv []) c p [] :: fs) s' := fun n s₀ x s' hx => by
        unfold turnX
        refine seg_wrap ?_
        rw [(gl _).over]
        refine wpAny_bind (wpAny_mono (hp x s' hx) (fun _ s'' hcb => wpAny_theTreesLotGoes ?_) fun y s'' hcb => ?_)
        · exact seg_leaf (.error x) (seg_cameBack gc k hcb)
        · exact seg_leaf (.error y) (seg_cameBack gc k hcb)
      refine segForLoop ?_
      rw [(gl _).over]
      obtain ⟨acc, cc, r, I⟩ := hI
      rcases turn i m ys σ H w with ⟨stop, qn⟩ | ⟨go, N, hN, step⟩
      · refine wpAny_mono (T.done X rfl rfl rfl hc i _ s σ H X.xe I (fpok acc cc H fr) st stop) (fun r1 s4 h4 => ?_) fun x s' hx => ee n s₀ x s' hx
        obtain ⟨hr, I4⟩ := h4
        subst hr
        refine seg_again rfl (segBlock ?_)
        exact seg_leaf (.ok .next) (k.ok n ys s₀ s4 .next hn ⟨σ, H, ⟨acc, cc, r, I4⟩, qn⟩)
      · refine wpAny_mono (T.item X rfl rfl rfl hc i _ s σ H X.xe I (fpok acc cc H fr) st go) (fun r1 s4 h4 => ?_) fun x s' hx => ee n s₀ x s' hx
        obtain ⟨u, hr, h4⟩ := h4
        subst hr
        refine wpAny_mono h4 (fun _ s5 h5 => ?_) fun x s' hx => ee n s₀ x s' hx
        obtain ⟨x, H5, I5, r5, y5, st5, fr5⟩ := h5
        have I5' := I5.pinned (fpok acc cc H5 fr5) (T.obj _ _ st5)
        refine wpAny_mono (hg.run _ s5 σ H5 x u _ I5' r5 (step x H5 y5)) (fun _ s6 h6 => ?_) fun x s' hx => ee n s₀ x s' hx
        obtain ⟨σ6, H6, I6, q6⟩ := h6
        have gip : ∀ q ∈ ip ++ pinsAt fp s5.heap, q.1 ≠ S := fun q hq => by
          rcases List.mem_append.mp hq with z | z
          · exact gc.ip q z
          · exact fpS q.1 (of_pinsAt z).1
        have gl' := fun (kk : Result → Sem PySem.Fin) => gl kk
        have back : ∀ {ys' : List V} {σ3 : L2.St} {H3 : Hp} {s3 : Shared}, GI X S (ip ++ pinsAt fp s5.heap) ys' σ3 H3 s3 → GI X S ip ys' σ3 H3 s3 ∧ tn (i + 1) s3.heap ∧ ∀ b ∈ fp, H3 b = none := fun {ys' σ3 H3 s3} hI3 => by
          obtain ⟨acc', cc', r', J3⟩ := hI3
          have J3 : Inv X (((S, lstObj acc' cc') :: ip) ++ pinsAt fp s5.heap) σ3 H3 s3 := J3
          refine ⟨⟨acc', cc', r', J3.unpinned⟩, T.keep _ _ _ st5 fun b hb o e => (J3.pin (b, o) (List.mem_append_right _ (List.mem_append_right _ (mem_pinsAt hb e)))).1, fun b hb => ?_⟩
          obtain ⟨o, e, d⟩ := T.obj _ _ st5 b hb
          exact (J3.pin (b, o) (List.mem_append_right _ (List.mem_append_right _ (mem_pinsAt hb e)))).2.1
        refine hb.run A S (ip ++ pinsAt fp s5.heap) R n ys s₀ _ _ _ _ id id s6 σ6 H6 { D with nx := N, ct := N, bk := D.nx } ⟨gc.pn, gip, gc.apart, (gl _).over, (gl _).split, (gl _).guard, rfl⟩ hn ⟨fun n' ys' s₀' s3 f hn' hs => ?_, fun n' s₀' x s3 hx => ee n' s₀' x s3 hx⟩ ⟨acc, cc, r, I6⟩ q6
        cases f with
        | next =>
          obtain ⟨σ3, H3, I3, n3⟩ := hs
          obtain ⟨m', hm, w3⟩ := hN ys' σ3 H3 n3
          obtain ⟨b1, b2, b3⟩ := back I3
          exact seg_again rfl (ih m' hm (i + 1) n' ys' s₀' s3 σ3 H3 hn' w3 b1 b2 b3)
        | cont =>
          obtain ⟨σ3, H3, I3, n3⟩ := hs
          obtain ⟨m', hm, w3⟩ := hN ys' σ3 H3 n3
          obtain ⟨b1, b2, b3⟩ := back I3
          exact seg_again rfl (ih m' hm (i + 1) n' ys' s₀' s3 σ3 H3 hn' w3 b1 b2 b3)
        | brk =>
          obtain ⟨σ3, H3, I3, q3⟩ := hs
          exact seg_leaf (.ok .next) (k.ok n' ys' s₀' s3 .next hn' ⟨σ3, H3, (back I3).1, q3⟩)
        | ret v =>
          obtain ⟨v3, σ3, H3, I3, r3, q3⟩ := hs
          exact seg_leaf (.ok (.ret v)) (k.ok n' ys' s₀' s3 (.ret v) hn' ⟨v3, σ3, H3, (back I3).1, r3, q3⟩)
  exact loop m0 0 n ys s₀ s2 σ H2 hn w0 ⟨acc0, cc0, r0, I2⟩ st2 fun b hb => (f2 b hb).1
end
end DL

/-! DL25: generator defs as functions that give a list -/
namespace DL
open PySem PySem.Spec PyProof.Rows L2 GenW
theorem GS.imp {X : Cx} {st : Stmt} {t t' : TGn} (h : GS X st t) (w : ∀ D ys σ H, t' D ys σ H → t D ys σ H) : GS X st t' := ⟨fun A S ip R n ys s₀ c fs K J gd lv s σ H D g hn k hI q => h.run A S ip R n ys s₀ c fs K J gd lv s σ H D g hn k hI (w D ys σ H q)⟩
theorem GSs.imp {X : Cx} {st : List Stmt} {t t' : TGn} (h : GSs X st t) (w : ∀ D ys σ H, t' D ys σ H → t D ys σ H) : GSs X st t' := ⟨fun A S ip R n ys s₀ c fs K J gd lv s σ H D g hn k hI q => h.run A S ip R n ys s₀ c fs K J gd lv s σ H D g hn k hI (w D ys σ H q)⟩
/-- what is wanted behind a statement -/
def SY (K : PySem.W.Frag) (T : Tab) (H : Hp) (D : GEnds) : Fl × List DL.D → En → Hp → Hp → L2.St → Prop := fun z ε' F' H' σ' => ∀ ys, Rps K T F' z.2 ys → SF K T H (D.at ys) z.1 ε' F' H' σ'
def tDY (K : PySem.W.Frag) (T : Tab) (W : WX) (P : List Nat) (g : List DL.D → En → O (Fl × List DL.D)) : TGn := fun D ys σ H => ∃ F ε ds, Ok K T F H σ ε ∧ Rps K T F ds ys ∧ Ps K T W P F H σ ε (g ds ε) (SY K T H D)
abbrev DY (X : Cx) (T : Tab) (W : WX) (P : List Nat) (st : Stmt) (g : List DL.D → En → O (Fl × List DL.D)) : Prop := GS X st (tDY X.K T W P g)
abbrev DYs (X : Cx) (T : Tab) (W : WX) (P : List Nat) (st : List Stmt) (g : List DL.D → En → O (Fl × List DL.D)) : Prop := GSs X st (tDY X.K T W P g)
section
variable {X : Cx} {T : Tab} {W : WX} {P : List Nat} {st : Stmt} {rest : List Stmt} {pos : Pos}
/-- a statement that hands out nothing -/
def yPlain (g : En → O Fl) : List DL.D → En → O (Fl × List DL.D) := fun ds ε => (g ε).bind fun fl ε1 => .ok (fl, ds) ε1
theorem dy_plain {g : En → O Fl} (h : DS X T W P st g) : DY X T W P st (yPlain g) := by
  refine GS.imp (gs_ps h) fun D ys σ H q => ?_
  obtain ⟨F, ε, ds, k, r, p⟩ := q
  refine ⟨F, ε, k, ?_⟩
  unfold yPlain at p
  cases e : g ε with
  | bad => rw [e] at p; exact p
  | exn c ε1 => rw [e] at p; exact p
  | ok fl ε1 =>
    rw [e] at p
    exact fun F1 H1 σ1 k1 x1 hP => p F1 H1 σ1 k1 x1 hP ys (Rps.mono x1.fs _ _ r)
def yNil : List DL.D → En → O (Fl × List DL.D) := fun ds ε => .ok (.nx, ds) ε
theorem dys_nil : DYs X T W P [] yNil := by
  refine GSs.imp gss_nil fun D ys σ H q => ?_
  obtain ⟨F, ε, ds, k, r, p⟩ := q
  exact p F H σ k Ext.refl (fun _ _ => rfl) ys r
def vYSeq (u : List DL.D → En → O (Fl × List DL.D)) (z : Fl × List DL.D) (ε : En) : O (Fl × List DL.D) :=
  match z.1 with
  | .nx => u z.2 ε
  | fl => .ok (fl, z.2) ε
def ySeq (t u : List DL.D → En → O (Fl × List DL.D)) : List DL.D → En → O (Fl × List DL.D) := fun ds ε => (t ds ε).bind (vYSeq u)
theorem dys_cons {t u : List DL.D → En → O (Fl × List DL.D)} (a : DY X T W P st t) (b : DYs X T W P rest u) : DYs X T W P (st :: rest) (ySeq t u) := by
  refine GSs.imp (gss_cons a b) fun D ys σ H q => ?_
  obtain ⟨F, ε, ds, k, r, p⟩ := q
  refine ⟨F, ε, ds, k, r, ?_⟩
  unfold ySeq at p
  cases e : t ds ε with
  | bad => rw [e] at p; exact p
  | exn c ε1 => rw [e] at p; exact p
  | ok z ε1 =>
    obtain ⟨fl, ds1⟩ := z
    rw [e] at p
    intro F1 H1 σ1 k1 x1 hP ys1 r1
    cases fl with
    | nx =>
      refine ⟨F1, ε1, ds1, k1, r1, ?_⟩
      have p : Ps X.K T W P F H σ ε (u ds1 ε1) (SY X.K T H D) := p
      refine (p.rebase x1 hP).mono fun z ε' F' H' σ' k' x' _ s ys' r' => ?_
      exact (s ys' r').imp (fun a ha => x1.ht a ha) (fun _ z => z) (fun _ z => z) (fun _ z => z) fun _ z => z
    | bk => exact p F1 H1 σ1 k1 x1 hP ys1 r1
    | ct => exact p F1 H1 σ1 k1 x1 hP ys1 r1
    | rt v => exact p F1 H1 σ1 k1 x1 hP ys1 r1
/-- yield e -/
def vYield (ds : List DL.D) (ε : En) (r : R) : O (Fl × List DL.D) :=
  match frz ε r with
  | some (d, ε1) => .ok (.nx, ds ++ [d]) ε1
  | none => .bad
def yYield (f : En → O R) : List DL.D → En → O (Fl × List DL.D) := fun ds ε => if ds.length < 1000000 then (f ε).bind fun r ε1 => vYield ds ε1 r else .bad
theorem dy_yield {e : Expr} {f : En → O R} {yp : Pos} (he : DE X T W e f) (hco : X.env.scope.isCoroutine = false := by rfl) (hi : interactive X.env = false := by rfl) : DY X T W P (.Expr (.Yield (some e) yp) pos) (yYield f) := by
  refine GS.imp (gs_yield he hco hi) fun D ys σ H q => ?_
  obtain ⟨F, ε, ds, k, r, p⟩ := q
  unfold yYield at p
  by_cases hl : ds.length < 1000000
  · rw [if_pos hl] at p
    refine ⟨line1M' (by rw [r.length]; exact hl), F, ε, k, ?_⟩
    cases e1 : f ε with
    | bad => rw [e1] at p; exact p
    | exn c ε1 =>
      rw [e1] at p
      exact fun F1 H1 k1 x1 => p F1 H1 σ k1 x1 fun _ _ => rfl
    | ok r1 ε1 =>
      rw [e1] at p
      have p : Ps X.K T W P F H σ ε (vYield ds ε1 r1) (SY X.K T H D) := p
      intro F1 H1 k1 x1 v hv hn
      unfold vYield at p
      cases e2 : frz ε1 r1 with
      | none => simp only [e2] at p; exact p.elim
      | some z =>
        obtain ⟨d, ε2⟩ := z
        simp only [e2] at p
        obtain ⟨F2, k2, x2, r2, s2, _, _⟩ := frz_ok x1 k1 hv hn e2
        have := p F2 H1 σ k2 x2 (fun _ _ => rfl) (ys ++ [v]) ((Rps.mono x2.fs _ _ r).append (Rps.one r2))
        exact this
  · rw [if_neg hl] at p; exact p.elim
/-- for -/
def yLoop (gg : DL.D → En → Option En) (b : List DL.D → En → O (Fl × List DL.D)) : List DL.D → List DL.D → En → O (Fl × List DL.D)
  | [], ds, ε => .ok (.nx, ds) ε
  | d :: items, ds, ε => match gg d ε with
    | some ε1 => (b ds ε1).bind fun z ε2 => match z.1 with
      | .nx => yLoop gg b items z.2 ε2
      | .ct => yLoop gg b items z.2 ε2
      | .bk => .ok (.nx, z.2) ε2
      | .rt r => .ok (.rt r, z.2) ε2
    | none => .bad
def yFor (fi : En → O (List DL.D)) (gg : DL.D → En → Option En) (b : List DL.D → En → O (Fl × List DL.D)) : List DL.D → En → O (Fl × List DL.D) := fun ds ε => (fi ε).bind fun items ε1 => yLoop gg b items ds ε1
theorem dy_for {tg iter : Expr} {tgs : List Nat} {body : List Stmt} {fi : En → O (List DL.D)} {gg : DL.D → En → Option En} {g : List DL.D → En → O (Fl × List DL.D)} (hp : PassesOwn (model X.prog X.w) X.A X.env X.xe) (hc : X.calm = true) (hi : DI X T W tg iter fi) (hg : DG X T tgs tg gg) (hb : DYs X T W P body g) (hP : ∀ j ∈ P, j ∉ tgs := by decide)
    (hs : ∀ x, foldedSetIterable iter X.env x = pure x := by intro _; rfl) : DY X T W P (.For tg iter body [] pos) (yFor fi gg g) := by
  refine GS.imp (gs_for hp hc hi hg hb hs) fun D ys σ H q => ?_
  obtain ⟨F, ε, ds, k, r, p⟩ := q
  refine ⟨F, ε, k, ?_⟩
  unfold yFor at p
  cases e : fi ε with
  | bad => rw [e] at p; exact p
  | exn c ε1 =>
    rw [e] at p
    exact fun F1 H1 k1 x1 => p F1 H1 σ k1 x1 fun _ _ => rfl
  | ok items ε1 =>
    rw [e] at p
    have p : Ps X.K T W P F H σ ε (yLoop gg g items ds ε1) (SY X.K T H D) := p
    intro F1 H1 k1 x1 J yj
    refine ⟨fun i m ys2 σ2 H2 => m = items.length - i ∧ i ≤ items.length ∧ ∃ F2 ε2 ds2, Ok X.K T F2 H2 σ2 ε2 ∧ Rps X.K T F2 ds2 ys2 ∧ Ext F H σ ε F2 H2 σ2 ε2 ∧ (∀ j ∈ P, σ2[j]? = σ[j]?) ∧ Same F1 F2 ∧ Ps X.K T W P F H σ ε (yLoop gg g (items.drop i) ds2 ε2) (SY X.K T H D), ⟨items.length, by simp, Nat.zero_le _, F1, ε1, ds, k1, Rps.mono x1.fs _ _ r, x1, fun _ _ => rfl, Same.refl _, p⟩, ?_⟩
    rintro i m ys2 σ2 H2 ⟨rfl, hi', F2, ε2, ds2, k2, r2, x2, hP2, s2, p2⟩
    obtain ⟨y1, y2⟩ := yj F2 H2 s2 k2.sub
    by_cases hlt : i < items.length
    · right
      obtain ⟨go, y1⟩ := y1 i hlt
      refine ⟨go, fun ys3 σ3 H3 => ∃ F3 ε3 ds3, Ok X.K T F3 H3 σ3 ε3 ∧ Rps X.K T F3 ds3 ys3 ∧ Ext F H σ ε F3 H3 σ3 ε3 ∧ (∀ j ∈ P, σ3[j]? = σ[j]?) ∧ Same F1 F3 ∧ Ps X.K T W P F H σ ε (yLoop gg g (items.drop (i + 1)) ds3 ε3) (SY X.K T H D), fun ys' σ' H' ⟨F3, ε3, ds3, z⟩ => ⟨items.length - (i + 1), by omega, rfl, hlt, F3, ε3, ds3, z⟩, fun x H3 hy => ?_⟩
      obtain ⟨F3, d, s3, s4, s5, fr, ed, rd⟩ := y1 x H3 hy
      have hdrop : items.drop i = d :: items.drop (i + 1) := by
        rw [List.drop_eq_getElem_cons hlt]
        congr 1
        rw [List.getElem?_eq_getElem hlt] at ed
        exact Option.some.inj ed
      rw [hdrop] at p2
      unfold yLoop at p2
      cases e3 : gg d ε2 with
      | none => simp only [e3] at p2; exact p2.elim
      | some ε3 =>
        simp only [e3] at p2
        have k3 := ok_grow k2 s3 s4 s5 fr
        have x3 := x2.grow s3 s5 fr
        refine ⟨F3, ε2, d, ε3, k3, rd, e3, fun F4 H4 σ4 k4 x4 hj _ => ?_⟩
        have x5 := x3.trans x4
        have hP4 : ∀ j ∈ P, σ4[j]? = σ[j]? := fun j hj' => (hj j (hP j hj')).trans (hP2 j hj')
        have s14 : Same F1 F4 := s2.trans (s3.trans x4.fs)
        refine ⟨F4, ε3, ds2, k4, Rps.mono (s3.trans x4.fs) _ _ r2, ?_⟩
        cases e4 : g ds2 ε3 with
        | bad => rw [e4] at p2; exact p2
        | exn c ε4 =>
          rw [e4] at p2
          exact fun F5 H5 σ5 k5 x6 hP5 => p2 F5 H5 σ5 k5 (x5.trans x6) fun j hj => (hP5 j hj).trans (hP4 j hj)
        | ok z ε4 =>
          obtain ⟨fl, ds4⟩ := z
          rw [e4] at p2
          intro F5 H5 σ5 k5 x6 hP5 ys5 r5
          have hP6 : ∀ j ∈ P, σ5[j]? = σ[j]? := fun j hj => (hP5 j hj).trans (hP4 j hj)
          cases fl with
          | nx => exact ⟨F5, ε4, ds4, k5, r5, x5.trans x6, hP6, s14.trans x6.fs, p2⟩
          | ct => exact ⟨F5, ε4, ds4, k5, r5, x5.trans x6, hP6, s14.trans x6.fs, p2⟩
          | bk => exact p2 F5 H5 σ5 k5 (x5.trans x6) hP6 ys5 r5
          | rt r1 => exact fun v hv hn => p2 F5 H5 σ5 k5 (x5.trans x6) hP6 ys5 r5 v hv fun a ha => x5.ht a (hn a ha)
    · left
      have ei : i = items.length := by omega
      subst ei
      rw [List.drop_length] at p2
      exact ⟨y2, p2 F2 H2 σ2 k2 x2 hP2 ys2 r2⟩
end
/-! ### the def, its call -/
def spGD (K : PySem.W.Frag) (T : Tab) (n : Nat) (φ : En → O (List DL.D)) : SpG := fun vs H Q E => vs.length = n ∧ ∃ F ε, Ok K T F H (vs.map some) ε ∧ Po K T (fun c d _ H' => E c d H') F H (vs.map some) ε (φ ε) (fun ds _ F' H' => ∀ ys, Rps K T F' ds ys → Q ys H')
def noE (ε : En) : En := ε.map fun _ => .no
def vGen (ε : En) (o : O (Fl × List DL.D)) : O (List DL.D) :=
  match o with
  | .ok (.nx, ds) _ => .ok ds (noE ε)
  | _ => .bad
def fzE : En → Bool
  | [] => true
  | .own _ :: _ => false
  | _ :: ε => fzE ε
def gnD (m : Nat) (g : List DL.D → En → O (Fl × List DL.D)) : En → O (List DL.D) := fun ε => if fzE ε = true then vGen ε (g [] (ε ++ List.replicate m .no)) else .bad
theorem fzE_own : ∀ {ε : En} {i : Nat} {d : DL.D}, fzE ε = true → ε[i]? = some (.own d) → False
  | [], i, d, _, e => by simp at e
  | .own _ :: _, _, _, h, _ => by simp [fzE] at h
  | .fz d' :: ε, 0, d, h, e => by simp at e
  | .no :: ε, 0, d, h, e => by simp at e
  | .fz d' :: ε, i + 1, d, h, e => fzE_own (ε := ε) (i := i) (by simpa [fzE] using h) (by simpa using e)
  | .no :: ε, i + 1, d, h, e => fzE_own (ε := ε) (i := i) (by simpa [fzE] using h) (by simpa using e)
section
variable {P : Program} {w : World} {K : PySem.W.Frag} {mg : Str → Option Value} {base : Heap}
theorem gn_ok {x qual : Str} {st : Stmt} {f : Addr} {fd : FuncData} {N ps : List Str} {k : Nat} {T : Tab} {Pr : List Nat} {g : List DL.D → En → O (Fl × List DL.D)} (n m : Nat) (F : Fun K x qual st f fd) (S : GScope N ps (defScope st)) (hn : ps.length = n) (hm : N.length - n = m)
    (hbody : ∀ (cdv : Value) (A : Around) (outer : List Env) (s : Shared) (H : Hp) (E : XK) (pn : List (Addr × Obj)), Room k (A.deeper (envOfC qual (defScope st) s.heap.objs.size f cdv)) →
      DYs (gcxOf P w K mg base N qual (defScope st) f cdv A outer s H E pn) T (fun c d _ H' => E c d H') Pr (defBody st) g) : GFn P w K mg base (k + 1) f fd ps (spGD K T n (gnD m g)) := by
  obtain ⟨oc, od, kV, doc, pm, an, cdv, ct, osl, rfl, lk, hcd⟩ := F.ex
  refine gfn_of lk hcd S (fun vs H Q E h => h.1.trans hn.symm) fun A outer s H vs Q E pn hr hsp => ?_
  refine ⟨_, hbody cdv A outer s H E pn hr, ?_⟩
  obtain ⟨hl, F0, ε, k0, p⟩ := hsp
  have hst : L2.start N vs = vs.map some ++ List.replicate m none := by unfold L2.start; rw [hl, hm]
  rw [hst]
  unfold gnD at p
  by_cases hO : fzE ε = true
  · rw [if_pos hO] at p
    refine ⟨F0, _, [], ok_app (m := m) k0, rps_nil.mpr rfl, ?_⟩
    cases e : g [] (ε ++ List.replicate m .no) with
    | bad => rw [e] at p; exact p.elim
    | exn c ε' => rw [e] at p; exact p.elim
    | ok z ε' =>
      obtain ⟨fl, ds⟩ := z
      rw [e] at p
      cases fl with
      | nx =>
        intro F' H' σ' k' x' hP ys r
        have nown : ∀ a, ¬ OwnAt (vs.map some) ε a := fun a ⟨i, d, ei, _⟩ => fzE_own hO ei
        refine p F' H' ⟨k'.sub, ?_, fun i d ei => ?_, fun i d ei => ?_, fun i j d d' a ei => ?_⟩ ⟨x'.fs, fun a o ha _ => x'.hk a o ha fun z => nown a ((own_app k0.len).mp z), x'.ht, fun a h => ?_, fun a ⟨i, d, ei, _⟩ => ?_⟩ ys r
        · unfold noE; rw [List.length_map, List.length_map, ← k0.len, List.length_map]
        · unfold noE at ei; rw [List.getElem?_map] at ei; cases h : ε[i]? <;> rw [h] at ei <;> cases ei
        · unfold noE at ei; rw [List.getElem?_map] at ei; cases h : ε[i]? <;> rw [h] at ei <;> cases ei
        · unfold noE at ei; rw [List.getElem?_map] at ei; cases h : ε[i]? <;> rw [h] at ei <;> cases ei
        · rcases x'.fn a h with z | z | z
          · exact .inl z
          · exact .inr (.inl z)
          · exact (nown a ((own_app k0.len).mp z)).elim
        · unfold noE at ei; rw [List.getElem?_map] at ei; cases h : ε[i]? <;> rw [h] at ei <;> cases ei
      | bk => exact p.elim
      | ct => exact p.elim
      | rt r => exact p.elim
  · rw [if_neg hO] at p; exact p.elim
end
section
variable {X : Cx} {T : Tab} {W : WX} {k : Nat} {f : Addr} {fd : FuncData} {ps : List Str} {φ : En → O (List DL.D)} {n : Nat} {x : Str} {p pos pos' q : Pos} {e : Expr} {es : List Expr} {fs : En → O (List R)}
def vListG (φ : En → O (List DL.D)) (ε : En) (rs : List R) : O R :=
  match ress ε rs with
  | some ds => match φ (ds.map .fz) with
    | .ok out _ => if out.all flat = true then .ok (.new (.lst out)) ε else .bad
    | _ => .bad
  | none => .bad
def dListG (φ : En → O (List DL.D)) (fs : En → O (List R)) : En → O R := fun ε => (fs ε).bind fun rs ε1 => vListG φ ε1 rs
/-- list(g(..)) -/
theorem de_listG (F : GFn X.prog X.w X.K X.mg X.base k f fd ps (spGD X.K T n φ)) (hr : Room (k + 3) X.A) (hgl : Gl X "list") (hml : X.mg "list" = none) (hg : Gl X x) (hm : X.mg x = some (.ref f)) (hk : PySem.W.keepIn X.K (.ref f) = true) (hb : Binds X.K fd ps []) (tk : Passes (CX X.prog X.w) X fun _ _ _ => False)
    (ha : DA X T W (e :: es) fs) (hn : ∀ ε rs ε', fs ε = .ok rs ε' → rs.length = n) (hdb : (x == ("__debug__" : Str)) = false := by decide) (he : starEach (e :: es) X.env = (false, eval e X.env) :: starEach es X.env := by rfl) (hpl : (backTo pos' (starEach es X.env)).any (·.1) = false := by rfl)
    (he2 : starEach [Expr.Call (.Name x p) (e :: es) [] pos'] X.env = (false, eval (Expr.Call (.Name x p) (e :: es) [] pos') X.env) :: starEach [] X.env := by rfl) :
    DE X T W (.Call (.Name "list" q) [.Call (.Name x p) (e :: es) [] pos'] [] pos) (dListG φ fs) := by
  refine PE.imp (pe_listG (pgen_call (E := fun _ _ _ => False) F (hr.mono (by omega)) hg hm hk hb .nil ha hdb he hpl) tk (fun _ _ _ h => h.elim) hr hgl hml (by decide +kernel) (he := he2)) fun σ H Q h => ?_
  obtain ⟨F0, ε, k0, p⟩ := h
  have p : Po X.K T W F0 H σ ε ((fs ε).bind fun rs ε1 => vListG φ ε1 rs) (SE X.K T H σ Q) := p
  refine ⟨F0, ε, k0, ?_⟩
  cases e1 : fs ε with
  | bad => rw [e1] at p; exact p
  | exn c ε1 => rw [e1] at p; exact p
  | ok rs ε1 =>
    rw [e1] at p
    intro F1 H1 k1 x1 vs hv hn' nd
    have p : Po X.K T W F0 H σ ε (vListG φ ε1 rs) (SE X.K T H σ Q) := p
    unfold vListG at p
    rw [List.append_nil]
    cases e2 : ress ε1 rs with
    | none => simp only [e2] at p; exact p.elim
    | some ds =>
      simp only [e2] at p
      have hr1 := ress_rps k1 hv e2
      refine ⟨by rw [hv.length]; exact hn _ _ _ e1, H1, ds.map .fz, ok_vals hr1, ?_⟩
      cases e3 : φ (ds.map .fz) with
      | bad => simp only [e3] at p; exact p.elim
      | exn c ε' => simp only [e3] at p; exact p.elim
      | ok out ε' =>
        simp only [e3] at p
        by_cases hf : out.all flat = true
        · rw [if_pos hf] at p
          intro F' H' k' x' ys ry q0 hq0
          have s3 : Same H1 H' := fun a o h => x'.hk a o h not_own_vals
          have k2 : Ok X.K T F1 H' σ ε1 := ok_grow k1 (Same.refl _) (k1.sub.trans s3) s3 fun a h => .inl h
          have x2 : Ext F0 H σ ε F1 H' σ ε1 := x1.grow (Same.refl _) s3 fun a h => .inl h
          exact SE.new k2 x2 p hq0 (rpO_lst.mpr ⟨ys, rfl, flats_rp hf ry⟩)
        · rw [if_neg hf] at p; exact p.elim
end
end DL

/-! DL26: small things -/
namespace DL
open PySem PySem.Spec PyProof.Rows L2 GenW
theorem pass_false {X : Cx} : Passes (CX X.prog X.w) X fun _ _ _ => False := fun pins σ H s e s' I h => by
  obtain ⟨a, B, H', cls, d, z1, fl, z2, ub, z3, z4, z5, z6⟩ := h
  exact z6.elim
end DL

/-! DL27: chains of < and <=, is of truth values -/
namespace DL
open PySem PySem.Spec PyProof.Rows L2
section
variable {X : Cx} {T : Tab} {W : WX} {e a b c : Expr} {f fa fb fc : En → O R} {pos pos' p : Pos}
theorem de_ltlt (ha : DE X T W a fa) (hb : DE X T W b fb) (hc : DE X T W c fc) (hm : lastMarks [.Lt, .Lt] [b, c] = false := by with_unfolding_all rfl) : DE X T W (.Compare a [.Lt, .Lt] [b, c] pos) (dCh gLt gLt fa fb fc) := de_ch (OpR.of0 op_lt) (OpR.of0 op_lt) op2_lt op2_lt ha hb hc hm
theorem dt_ltlt (ha : DE X T W a fa) (hb : DE X T W b fb) (hc : DE X T W c fc) (hm : lastMarks [.Lt, .Lt] [b, c] = false := by with_unfolding_all rfl) : DT X T W (.Compare a [.Lt, .Lt] [b, c] pos) (dTst (dCh gLt gLt fa fb fc)) := dt_ch (OpR.of0 op_lt) (OpR.of0 op_lt) op2_lt op2_lt ha hb hc hm
theorem de_lelt (ha : DE X T W a fa) (hb : DE X T W b fb) (hc : DE X T W c fc) (hm : lastMarks [.LtE, .Lt] [b, c] = false := by with_unfolding_all rfl) : DE X T W (.Compare a [.LtE, .Lt] [b, c] pos) (dCh gLe gLt fa fb fc) := de_ch (OpR.of0 op_le) (OpR.of0 op_lt) op2_le op2_lt ha hb hc hm
theorem dt_lelt (ha : DE X T W a fa) (hb : DE X T W b fb) (hc : DE X T W c fc) (hm : lastMarks [.LtE, .Lt] [b, c] = false := by with_unfolding_all rfl) : DT X T W (.Compare a [.LtE, .Lt] [b, c] pos) (dTst (dCh gLe gLt fa fb fc)) := dt_ch (OpR.of0 op_le) (OpR.of0 op_lt) op2_le op2_lt ha hb hc hm
/-- is True, is False -/
def gIsB (neg : Bool) : D → D → Option D
  | .bl a, .bl b => some (.bl (if neg = true then !(a == b) else (a == b)))
  | _, _ => none
theorem op2_isB {K : PySem.W.Frag} : Op2 K T (gIsB false) rIsB := fun d1 d2 d x y H Q e r1 r2 q => by
  unfold gIsB at e
  split at e
  · rename_i a b
    cases e
    refine ⟨rfl, a, b, rp_bl.mp r1, rp_bl.mp r2, ?_⟩
    have : decide (a = b) = (a == b) := by cases a <;> cases b <;> rfl
    rw [this]
    exact q _ (rp_bl.mpr rfl)
  · cases e
theorem op2_notB {K : PySem.W.Frag} : Op2 K T (gIsB true) rNotB := fun d1 d2 d x y H Q e r1 r2 q => by
  unfold gIsB at e
  split at e
  · rename_i a b
    cases e
    refine ⟨rfl, a, b, rp_bl.mp r1, rp_bl.mp r2, ?_⟩
    have : (!decide (a = b)) = (!(a == b)) := by cases a <;> cases b <;> rfl
    rw [this]
    exact q _ (rp_bl.mpr rfl)
  · cases e
theorem de_isB (ha : DE X T W a fa) (hb : DE X T W b fb) (hm : behindInMarks .Is b = false := by first | exact nomark _ | rfl) : DE X T W (.Compare a [.Is] [b] pos) (dOp2 (gIsB false) fa fb) := de_cmp op_isBl op2_isB ha hb hm
theorem de_notB (ha : DE X T W a fa) (hb : DE X T W b fb) (hm : behindInMarks .IsNot b = false := by first | exact nomark _ | rfl) : DE X T W (.Compare a [.IsNot] [b] pos) (dOp2 (gIsB true) fa fb) := de_cmp op_notBl op2_notB ha hb hm
theorem dt_isB (ha : DE X T W a fa) (hb : DE X T W b fb) (hm : behindInMarks .Is b = false := by first | exact nomark _ | rfl) : DT X T W (.Compare a [.Is] [b] pos) (dTst (dOp2 (gIsB false) fa fb)) := dt_cmp op_isBl op2_isB ha hb hm
theorem dt_notB (ha : DE X T W a fa) (hb : DE X T W b fb) (hm : behindInMarks .IsNot b = false := by first | exact nomark _ | rfl) : DT X T W (.Compare a [.IsNot] [b] pos) (dTst (dOp2 (gIsB true) fa fb)) := dt_cmp op_notBl op2_notB ha hb hm
end
end DL

/-! DL28: dicts whose keys are ints, or tuples of ints -/
namespace DL
open PySem PySem.Spec PyProof.Rows L2
section
variable {κ : Type} [DecidableEq κ]
/-- what stands at a key -/
def lkp {α : Type} : List κ → List α → κ → Option α
  | k' :: ks, d :: ds, k => if k' = k then some d else lkp ks ds k
  | _, _, _ => none
def putks (ks : List κ) (k : κ) : List κ := if ks.contains k = true then ks else ks ++ [k]
def put1 {α : Type} : List κ → List α → κ → α → List α
  | k' :: ks, d' :: ds, k, d => (if k' = k then d else d') :: put1 ks ds k d
  | _, _, _, _ => []
def putds {α : Type} (ks : List κ) (ds : List α) (k : κ) (d : α) : List α := if ks.contains k = true then put1 ks ds k d else ds ++ [d]
theorem lkp_val {ks : List κ} {vs : List V} {k : κ} : valV (ks.zip vs) k = lkp ks vs k := by
  induction ks generalizing vs with
  | nil => rfl
  | cons k' ks ih =>
    cases vs with
    | nil => rfl
    | cons v vs =>
      rw [List.zip_cons_cons]
      show _ = if k' = k then some v else lkp ks vs k
      by_cases h : k' = k
      · rw [if_pos h, valV_pos h]
      · rw [if_neg h, valV_neg h, ih]
theorem put1_length {α : Type} : ∀ (ks : List κ) (ds : List α) (k : κ) (d : α), ks.length = ds.length → (put1 ks ds k d).length = ds.length
  | [], [], _, _, _ => rfl
  | k' :: ks, d' :: ds, k, d, h => by unfold put1; rw [List.length_cons, put1_length ks ds k d (by simpa using h), List.length_cons]
  | [], _ :: _, _, _, h => by simp at h
  | _ :: _, [], _, _, h => by simp at h
theorem put1_zip : ∀ (ks : List κ) (vs : List V) (k : κ) (v : V), ks.length = vs.length → (ks.zip vs).map (fun kv => if kv.1 = k then (kv.1, v) else kv) = ks.zip (put1 ks vs k v)
  | [], [], _, _, _ => rfl
  | k' :: ks, v' :: vs, k, v, h => by
    unfold put1
    rw [List.zip_cons_cons, List.map_cons, put1_zip ks vs k v (by simpa using h), List.zip_cons_cons]
    congr 1
    show (if k' = k then (k', v) else (k', v')) = _
    split <;> rfl
  | [], _ :: _, _, _, h => by simp at h
  | _ :: _, [], _, _, h => by simp at h
theorem any_zip (ks : List κ) (vs : List V) (k : κ) (h : ks.length = vs.length) : ((ks.zip vs).any fun kv => decide (kv.1 = k)) = ks.contains k := by
  induction ks generalizing vs with
  | nil => rfl
  | cons k' ks ih =>
    cases vs with
    | nil => simp at h
    | cons v vs =>
      rw [List.zip_cons_cons, List.any_cons, ih vs (by simpa using h), List.contains_cons]
      congr 1
      rw [Bool.eq_iff_iff, decide_eq_true_eq, beq_iff_eq]
      exact eq_comm
theorem put_zip (ks : List κ) (vs : List V) (k : κ) (v : V) (h : ks.length = vs.length) : putK (ks.zip vs) k v = (putks ks k).zip (putds ks vs k v) := by
  unfold putK putks putds
  rw [any_zip ks vs k h]
  by_cases c : ks.contains k = true
  · rw [if_pos c, if_pos c, if_pos c, put1_zip ks vs k v h]
  · rw [if_neg c, if_neg c, if_neg c, List.zip_append h]; rfl
theorem put_len {α : Type} (ks : List κ) (ds : List α) (k : κ) (d : α) (h : ks.length = ds.length) : (putks ks k).length = (putds ks ds k d).length := by
  unfold putks putds
  split
  · rw [put1_length ks ds k d h]; exact h
  · rw [List.length_append, List.length_append, h]; rfl
end
section
variable {K : PySem.W.Frag} {T : Tab} {F : Hp} {κ : Type} [DecidableEq κ]
theorem Rps.lkp : ∀ {ks : List κ} {ds : List D} {vs : List V} {k : κ}, Rps K T F ds vs → (∀ d, DL.lkp ks ds k = some d → ∃ v, DL.lkp ks vs k = some v ∧ Rp K T F d v) ∧ (DL.lkp ks ds k = none → DL.lkp ks vs k = none)
  | [], ds, vs, k, h => by
    have e1 : DL.lkp ([] : List κ) ds k = none := by cases ds <;> rfl
    have e2 : DL.lkp ([] : List κ) vs k = none := by cases vs <;> rfl
    rw [e1, e2]
    exact ⟨fun d e => (by cases e), fun _ => rfl⟩
  | k' :: ks, [], vs, k, h => by
    rw [rps_nil.mp h]
    exact ⟨fun d e => (by cases e), fun _ => rfl⟩
  | k' :: ks, d' :: ds, vs, k, h => by
    obtain ⟨v, r, rfl, h1, h2⟩ := rps_cons.mp h
    obtain ⟨i1, i2⟩ := Rps.lkp (ks := ks) (k := k) h2
    show (∀ d, (if k' = k then some d' else DL.lkp ks ds k) = some d → ∃ v', (if k' = k then some v else DL.lkp ks r k) = some v' ∧ Rp K T F d v') ∧ ((if k' = k then some d' else DL.lkp ks ds k) = none → (if k' = k then some v else DL.lkp ks r k) = none)
    by_cases c : k' = k
    · rw [if_pos c, if_pos c]
      exact ⟨fun d e => by cases e; exact ⟨v, rfl, h1⟩, fun e => by cases e⟩
    · rw [if_neg c, if_neg c]
      exact ⟨i1, i2⟩
theorem Rps.put1 : ∀ {ks : List κ} {ds : List D} {vs : List V} {k : κ} {d : D} {v : V}, Rps K T F ds vs → Rp K T F d v → Rps K T F (DL.put1 ks ds k d) (DL.put1 ks vs k v)
  | [], ds, vs, k, d, v, h, q => by
    have e1 : DL.put1 ([] : List κ) ds k d = [] := by cases ds <;> rfl
    have e2 : DL.put1 ([] : List κ) vs k v = [] := by cases vs <;> rfl
    rw [e1, e2]; exact rps_nil.mpr rfl
  | k' :: ks, [], vs, k, d, v, h, q => by
    rw [rps_nil.mp h]; exact rps_nil.mpr rfl
  | k' :: ks, d' :: ds, vs, k, d, v, h, q => by
    obtain ⟨v', r, rfl, h1, h2⟩ := rps_cons.mp h
    refine rps_cons.mpr ⟨_, _, rfl, ?_, Rps.put1 h2 q⟩
    split
    · exact q
    · exact h1
theorem Rps.putds {ks : List κ} {ds : List D} {vs : List V} {k : κ} {d : D} {v : V} (h : Rps K T F ds vs) (q : Rp K T F d v) : Rps K T F (DL.putds ks ds k d) (DL.putds ks vs k v) := by
  unfold DL.putds
  split
  · exact h.put1 q
  · exact h.append (Rps.one q)
end
/-- a key of ints -/
def kI (i : Int) : Key := Sum.inl i
def kT (is : List Int) : List Key := is.map Sum.inl
def toKey : D → Option Key
  | .int i => some (kI i)
  | .str x => some (Sum.inr x)
  | _ => none
theorem toKey_rp {K : PySem.W.Frag} {T : Tab} {H : Hp} {d : D} {k : Key} {v : V} (e : toKey d = some k) (r : Rp K T H d v) : v = kV k := by
  cases d with
  | int i => cases e; exact rp_int.mp r
  | str x => cases e; exact rp_str.mp r
  | _ => cases e
section
variable {X : Cx} {T : Tab} {W : WX} {e a b c o i value : Expr} {es : List Expr} {f fa fb fc fo fi fv : En → O R} {fs : En → O (List R)} {pos pos' p : Pos} {P : List Nat}
/-! ### {} -/
theorem de_dnewK : DE X T W (.Dict [] [] pos) (fun ε => .ok (.new (.dK [] [])) ε) := by
  refine PE.imp pe_dnewK fun σ H Q q => ?_
  obtain ⟨F, ε, k, q⟩ := q
  exact fun p hp => SE.new k Ext.refl q hp (rpO_dK.mpr ⟨[], rfl, rfl, rps_nil.mpr rfl⟩)
theorem de_dnewT : DE X T W (.Dict [] [] pos) (fun ε => .ok (.new (.dT [] [])) ε) := by
  refine PE.imp pe_dnewT fun σ H Q q => ?_
  obtain ⟨F, ε, k, q⟩ := q
  exact fun p hp => SE.new k Ext.refl q hp (show RpO X.K T F (.dT [] []) (.dT []) from ⟨[], rfl, rfl, rps_nil.mpr rfl⟩)
/-! ### d[k] -/
def vGetK (ε : En) (r1 r2 : R) : O R :=
  match res ε r1, res ε r2 with
  | some (.dK ks ds), some dk => match toKey dk with
    | some k => match lkp ks ds k with
      | some d => .ok (.fz d) ε
      | none => .bad
    | none => .bad
  | _, _ => .bad
def dGetK (fo fi : En → O R) : En → O R := fun ε => (fo ε).bind fun r1 ε1 => (fi ε1).bind fun r2 ε2 => vGetK ε2 r1 r2
theorem de_getK (hu : X.A.units + 64 < cLine) (ho : DE X T W o fo) (hi : DE X T W i fi) (hs : NoSl i := by intro _ _; rfl) : DE X T W (.Subscript o i pos) (dGetK fo fi) := by
  refine PE.imp (pe_dget (by omega) ho hi hs) fun σ H Q q => ?_
  obtain ⟨F, ε, k, p⟩ := q
  refine two_use (g := fun r1 r2 ε2 => vGetK ε2 r1 r2) k Ext.refl p fun v1 v2 F2 H2 r1 r2 ε2 k2 _ x2 q1 q2 n1 n2 nd p2 => ?_
  unfold vGetK at p2
  split at p2
  · rename_i ks ds dk e1 e2
    cases e3 : toKey dk with
    | none => simp only [e3] at p2; exact p2.elim
    | some key =>
      simp only [e3] at p2
      cases e4 : lkp ks ds key with
      | none => simp only [e4] at p2; exact p2.elim
      | some d =>
        simp only [e4] at p2
        obtain ⟨a, vs, rfl, hd, hl, hr⟩ := res_rpi k2 q1 e1
        obtain ⟨v, ev, rv⟩ := hr.lkp.1 d e4
        refine ⟨a, v, rfl, .inl ⟨_, key, hd, toKey_rp e3 (res_rp k2 q2 e2), by rw [lkp_val, ev]⟩, ?_⟩
        exact SE.fin (r := .fz d) k2 x2 p2 rv (by simp [newA])
  · exact p2.elim
/-! ### k in d -/
def gInK (neg : Bool) : D → D → Option D
  | dk, .dK ks ds => match toKey dk with
    | some k => some (.bl (if neg = true then !(lkp ks ds k).isSome else (lkp ks ds k).isSome))
    | none => none
  | _, _ => none
theorem inK_use {K : PySem.W.Frag} {neg : Bool} {σ : L2.St} {H : Hp} {Q : VK} (q : tD K T W (dOp2 (gInK neg) fi fo) σ H Q) : tD K T W fi σ H fun y H1 => tD K T W fo σ H1 fun x H2 => ∃ a o, x = .ref a ∧ DGet H2 a y o ∧ Q (.bl (if neg = true then !o.isSome else o.isSome)) H2 := by
  obtain ⟨F, ε, k, p⟩ := q
  refine two_use (g := fun r1 r2 ε2 => vOp2 (gInK neg) ε2 r1 r2) k Ext.refl p fun v1 v2 F2 H2 r1 r2 ε2 k2 _ x2 q1 q2 n1 n2 nd p2 => ?_
  unfold vOp2 at p2
  cases e1 : res ε2 r1 with
  | none => rw [e1] at p2; exact p2.elim
  | some dk =>
    cases e2 : res ε2 r2 with
    | none => rw [e1, e2] at p2; exact p2.elim
    | some dd =>
      rw [e1, e2] at p2
      cases dd with
      | dK ks ds =>
        have e0 : gInK neg dk (.dK ks ds) = match toKey dk with | some k => some (.bl (if neg = true then !(lkp ks ds k).isSome else (lkp ks ds k).isSome)) | none => none := rfl
        cases e3 : toKey dk with
        | none => rw [e3] at e0; simp only [e0] at p2; exact p2.elim
        | some key =>
          rw [e3] at e0
          simp only [e0] at p2
          obtain ⟨a, vs, rfl, hd, hl, hr⟩ := res_rpi k2 q2 e2
          obtain ⟨i1, i2⟩ := hr.lkp (ks := ks) (k := key)
          refine ⟨a, lkp ks vs key, rfl, .inl ⟨_, key, hd, toKey_rp e3 (res_rp k2 q1 e1), by rw [lkp_val]⟩, ?_⟩
          have es : (lkp ks vs key).isSome = (lkp ks ds key).isSome := by
            cases e4 : lkp ks ds key with
            | none => rw [i2 e4]; rfl
            | some d => obtain ⟨v, ev, _⟩ := i1 d e4; rw [ev]; rfl
          rw [es]
          exact SE.flat (d := .bl _) (H' := H2) k2 x2 p2 rfl (rp_bl.mpr rfl)
      | _ => cases dk <;> exact p2.elim
theorem de_inK (hu : X.A.units + 64 < cLine) (hi : DE X T W i fi) (ho : DE X T W o fo) (hm : behindInMarks .In o = false := by first | exact nobehind _ (by decide) (by decide) | rfl) : DE X T W (.Compare i [.In] [o] pos) (dOp2 (gInK false) fi fo) := PE.imp (pe_cmp (pc_din (by omega) hi ho) (h1 := hm)) fun σ H Q q => inK_use q
theorem de_ninK (hu : X.A.units + 64 < cLine) (hi : DE X T W i fi) (ho : DE X T W o fo) (hm : behindInMarks .NotIn o = false := by first | exact nobehind _ (by decide) (by decide) | rfl) : DE X T W (.Compare i [.NotIn] [o] pos) (dOp2 (gInK true) fi fo) := PE.imp (pe_cmp (pc_dnotin (by omega) hi ho) (h1 := hm)) fun σ H Q q => inK_use q
theorem dt_inK (hu : X.A.units + 64 < cLine) (hi : DE X T W i fi) (ho : DE X T W o fo) (hm : behindInMarks .In o = false := by first | exact nobehind _ (by decide) (by decide) | rfl) : DT X T W (.Compare i [.In] [o] pos) (dTst (dOp2 (gInK false) fi fo)) := PT.imp (pt_cmp (pc_din (by omega) hi ho) (h1 := hm)) fun σ H Q q => inK_use (neg := false) (Q := fun x H1 => ∃ c, x = .bl c ∧ Q c H1) (tst_use q)
theorem dt_ninK (hu : X.A.units + 64 < cLine) (hi : DE X T W i fi) (ho : DE X T W o fo) (hm : behindInMarks .NotIn o = false := by first | exact nobehind _ (by decide) (by decide) | rfl) : DT X T W (.Compare i [.NotIn] [o] pos) (dTst (dOp2 (gInK true) fi fo)) := PT.imp (pt_cmp (pc_dnotin (by omega) hi ho) (h1 := hm)) fun σ H Q q => inK_use (neg := true) (Q := fun x H1 => ∃ c, x = .bl c ∧ Q c H1) (tst_use q)
end
end DL

/-! DL29: stores into dicts, dicts with pairs as keys -/
namespace DL
open PySem PySem.Spec PyProof.Rows L2
section
variable {X : Cx} {T : Tab} {W : WX} {e a b c o i value : Expr} {es : List Expr} {f fa fb fc fo fi fv : En → O R} {fs : En → O (List R)} {pos pos' p px : Pos} {P : List Nat}
def vPutK (j : Nat) (ε : En) (r rk : R) : O Fl :=
  match res ε rk with
  | some dk => match toKey dk with
    | some k => match frz ε r with
      | some (d, ε3) => match ε3[j]? with
        | some (.own (.dK ks ds)) => if ks.length < 1000000 then .ok .nx (ε3.set j (.own (.dK (putks ks k) (putds ks ds k d)))) else .bad
        | _ => .bad
      | none => .bad
    | none => .bad
  | none => .bad
def dPutK (j : Nat) (fi fv : En → O R) : En → O Fl := fun ε =>
  match ε[j]? with
  | some (.own _) => (fv ε).bind fun r ε1 => (fi ε1).bind fun rk ε2 => vPutK j ε2 r rk
  | _ => .bad
theorem ds_putK (j : Nat) {x : Str} (hu : X.A.units + 64 < cLine) (hx : PE X (.Name x px) (tVar j)) (hi : DE X T W i fi) (hv : DE X T W value fv) (hs : swapsWith value (some (.Subscript (.Name x px) i pos')) pos.line X.env = pure false := by rfl) :
    DS X T W P (.Assign [.Subscript (.Name x px) i pos'] value pos) (dPutK j fi fv) := by
  refine PS.imp (ps_dput (by omega) hx hi hv hs) fun D σ H q => ?_
  obtain ⟨F, ε, k, p⟩ := q
  unfold dPutK at p
  split at p
  · rename_i d0 e0
    obtain ⟨a0, o0, s0, _, _, _⟩ := k.own j d0 e0
    refine tD_useS (g := fun r ε1 => (fi ε1).bind fun rk ε2 => vPutK j ε2 r rk) (S := SF X.K T H D) k Ext.refl (fun _ _ => rfl) p fun v F1 H1 r ε1 k1 x1 _ q1 n1 p1 => ?_
    refine ⟨.ref a0, s0, ?_⟩
    refine tD_useS (g := fun rk ε2 => vPutK j ε2 r rk) (S := SF X.K T H D) k1 x1 (fun _ _ => rfl) p1 fun y F2 H2 rk ε2 k2 x2 y2 q2 n2 p2 => ?_
    unfold vPutK at p2
    split at p2
    · rename_i dk e1
      split at p2
      · rename_i key e2
        split at p2
        · rename_i d ε3 e3
          obtain ⟨F3, k3, x3, r3, s3, _⟩ := frz_ok y2 k2 (q1.ext x2) n1 e3
          split at p2
          · rename_i ks ds e4
            split at p2
            · rename_i hlen
              obtain ⟨a1, o1, sa, f1, g1, q3⟩ := k3.own j _ e4
              rw [s0] at sa; cases sa
              obtain ⟨vs, rfl, hl, hr⟩ := rpO_dK.mp q3
              have hl2 : ks.length = vs.length := by rw [hr.length]; exact hl
              refine ⟨a0, upd H2 a0 (.dK (putK (ks.zip vs) key v)), rfl, .inl ⟨_, key, g1, toKey_rp e2 (res_rp k2 q2 e1), line1M' (by rw [List.length_zip]; omega), rfl⟩, ?_⟩
              rw [put_zip ks vs key v hl2]
              exact p2 F3 _ σ (ok_write k3 e4 s0 (rpO_dK.mpr ⟨_, rfl, put_len ks ds key d hl, hr.putds r3⟩)) (x3.write e4 s0) fun _ _ => rfl
            · exact p2.elim
          · exact p2.elim
        · exact p2.elim
      · exact p2.elim
    · exact p2.elim
  · exact p.elim
/-! ### keys that are tuples of ints, written there -/
theorem rps_kT {K : PySem.W.Frag} {F : Hp} {ds : List D} {is : List Int} {vs : List V} (e : toIs ds = some is) (h : Rps K T F ds vs) : vs = (kT is).map kV := by
  rw [rps_ints e h]
  unfold kT
  rw [List.map_map]; rfl
def vGetT (ε : En) (r : R) (rs : List R) : O R :=
  match res ε r, ress ε rs with
  | some (.dT ks ds), some dks => match toIs dks with
    | some is => match lkp ks ds (kT is) with
      | some d => if dks.length ≤ 1000 then .ok (.fz d) ε else .bad
      | none => .bad
    | none => .bad
  | _, _ => .bad
def dGetT (fo : En → O R) (fs : En → O (List R)) : En → O R := fun ε => (fo ε).bind fun r ε1 => (fs ε1).bind fun rs ε2 => vGetT ε2 r rs
theorem de_getT {kk : Nat} {tpos : Pos} (hu : X.A.units + 64 < cLine) (ho : DE X T W o fo) (ha : DA X T W es fs) (hs : NoSl (.Tuple es kk tpos) := by intro _ _; rfl) : DE X T W (.Subscript o (.Tuple es kk tpos) pos) (dGetT fo fs) := by
  refine PE.imp (pe_dget (by omega) ho (pe_tup ha) hs) fun σ H Q q => ?_
  obtain ⟨F, ε, k, p⟩ := q
  refine tD_use (g := fun r ε1 => (fs ε1).bind fun rs ε2 => vGetT ε2 r rs) k Ext.refl p fun v F1 H1 r ε1 k1 x1 _ q1 n1 p1 => ?_
  refine tDA_use (g := fun rs ε2 => vGetT ε2 r rs) k1 x1 p1 fun vs F2 H2 rs ε2 k2 x2 y2 q2 n2 nd p2 => ?_
  unfold vGetT at p2
  split at p2
  · rename_i ks ds dks e1 e2
    split at p2
    · rename_i is e3
      split at p2
      · rename_i d e4
        split at p2
        · rename_i hn
          have hvs := rps_kT e3 (ress_rps k2 q2 e2)
          refine ⟨line1000 (by rw [(ress_rps k2 q2 e2).length]; exact hn), fun q hq => ?_⟩
          obtain ⟨a, us, rfl, hd, hl, hr⟩ := res_rpi k2 (q1.ext x2) e1
          obtain ⟨u, eu, ru⟩ := hr.lkp.1 d e4
          have hd' : Rd (upd H2 q (.tup vs)) a (.dT (ks.zip us)) := rd_mono (same_upd hq) hd
          refine ⟨a, u, rfl, .inr ⟨_, kT is, q, hd', rfl, by rw [upd_same, hvs], by rw [lkp_val, eu]⟩, ?_⟩
          exact SE.fin (r := .fz d) (ok_alloc k2 hq) (y2.alloc hq) p2 ru (by simp [newA])
        · exact p2.elim
      · exact p2.elim
    · exact p2.elim
  · exact p2.elim
/-- (a, b) in d -/
def vInT (neg : Bool) (ε : En) (r : R) (rs : List R) : O R :=
  match res ε r, ress ε rs with
  | some (.dT ks ds), some dks => match toIs dks with
    | some is => .ok (.fz (.bl (if neg = true then !(lkp ks ds (kT is)).isSome else (lkp ks ds (kT is)).isSome))) ε
    | none => .bad
  | _, _ => .bad
def dInT (neg : Bool) (fs : En → O (List R)) (fo : En → O R) : En → O R := fun ε => (fs ε).bind fun rs ε1 => if rs.length ≤ 1000 then (fo ε1).bind fun r ε2 => vInT neg ε2 r rs else .bad
theorem inT_use {K : PySem.W.Frag} {neg : Bool} {σ : L2.St} {H : Hp} {Q : VK} (q : tD K T W (dInT neg fs fo) σ H Q) : tTup (tDA K T W fs) σ H fun y H1 => tD K T W fo σ H1 fun x H2 => ∃ a o, x = .ref a ∧ DGet H2 a y o ∧ Q (.bl (if neg = true then !o.isSome else o.isSome)) H2 := by
  obtain ⟨F, ε, k, p⟩ := q
  have p : Po K T W F H σ ε ((fs ε).bind fun rs ε1 => if rs.length ≤ 1000 then (fo ε1).bind fun r ε2 => vInT neg ε2 r rs else .bad) (SE K T H σ Q) := p
  refine tDA_use (g := fun rs ε1 => if rs.length ≤ 1000 then (fo ε1).bind fun r ε2 => vInT neg ε2 r rs else .bad) k Ext.refl p fun vs F1 H1 rs ε1 k1 x1 _ q1 n1 nd p1 => ?_
  by_cases hl : rs.length ≤ 1000
  · rw [if_pos hl] at p1
    refine ⟨line1000 (by rw [q1.length]; exact hl), fun t ht => ?_⟩
    refine tD_use (g := fun r ε2 => vInT neg ε2 r rs) (ok_alloc k1 ht) (x1.alloc ht) p1 fun v F2 H2 r ε2 k2 x2 y2 q2 n2 p2 => ?_
    have ht2 : H2 t = some (.tup vs) := x2.hk t _ upd_same (not_own_fresh k1 ht)
    have xx : Ext F1 H1 σ ε1 F2 H2 σ ε2 := (Ext.refl.alloc ht).trans x2
    unfold vInT at p2
    split at p2
    · rename_i ks ds dks e1 e2
      split at p2
      · rename_i is e3
        have hvs := rps_kT e3 (ress_rps k2 (q1.ext xx) e2)
        obtain ⟨a, us, rfl, hd, _, hr⟩ := res_rpi k2 q2 e1
        obtain ⟨i1, i2⟩ := hr.lkp (ks := ks) (k := kT is)
        refine ⟨a, lkp ks us (kT is), rfl, .inr ⟨_, kT is, t, hd, rfl, by rw [ht2, hvs], by rw [lkp_val]⟩, ?_⟩
        have es : (lkp ks us (kT is)).isSome = (lkp ks ds (kT is)).isSome := by
          cases e4 : lkp ks ds (kT is) with
          | none => rw [i2 e4]; rfl
          | some d => obtain ⟨v, ev, _⟩ := i1 d e4; rw [ev]; rfl
        rw [es]
        exact SE.flat (d := .bl _) (H' := H2) k2 y2 p2 rfl (rp_bl.mpr rfl)
      · exact p2.elim
    · exact p2.elim
  · rw [if_neg hl] at p1; exact p1.elim
theorem de_inT {kk : Nat} {tpos : Pos} (hu : X.A.units + 64 < cLine) (ha : DA X T W es fs) (ho : DE X T W o fo) (hm : behindInMarks .In o = false := by first | exact nobehind _ (by decide) (by decide) | rfl) : DE X T W (.Compare (.Tuple es kk tpos) [.In] [o] pos) (dInT false fs fo) := PE.imp (pe_cmp (pc_din (by omega) (pe_tup ha) ho) (h1 := hm)) fun σ H Q q => inT_use q
theorem de_ninT {kk : Nat} {tpos : Pos} (hu : X.A.units + 64 < cLine) (ha : DA X T W es fs) (ho : DE X T W o fo) (hm : behindInMarks .NotIn o = false := by first | exact nobehind _ (by decide) (by decide) | rfl) : DE X T W (.Compare (.Tuple es kk tpos) [.NotIn] [o] pos) (dInT true fs fo) := PE.imp (pe_cmp (pc_dnotin (by omega) (pe_tup ha) ho) (h1 := hm)) fun σ H Q q => inT_use q
theorem dt_inT {kk : Nat} {tpos : Pos} (hu : X.A.units + 64 < cLine) (ha : DA X T W es fs) (ho : DE X T W o fo) (hm : behindInMarks .In o = false := by first | exact nobehind _ (by decide) (by decide) | rfl) : DT X T W (.Compare (.Tuple es kk tpos) [.In] [o] pos) (dTst (dInT false fs fo)) := PT.imp (pt_cmp (pc_din (by omega) (pe_tup ha) ho) (h1 := hm)) fun σ H Q q => inT_use (neg := false) (Q := fun x H1 => ∃ c, x = .bl c ∧ Q c H1) (tst_use q)
theorem dt_ninT {kk : Nat} {tpos : Pos} (hu : X.A.units + 64 < cLine) (ha : DA X T W es fs) (ho : DE X T W o fo) (hm : behindInMarks .NotIn o = false := by first | exact nobehind _ (by decide) (by decide) | rfl) : DT X T W (.Compare (.Tuple es kk tpos) [.NotIn] [o] pos) (dTst (dInT true fs fo)) := PT.imp (pt_cmp (pc_dnotin (by omega) (pe_tup ha) ho) (h1 := hm)) fun σ H Q q => inT_use (neg := true) (Q := fun x H1 => ∃ c, x = .bl c ∧ Q c H1) (tst_use q)
/-- d[(a, b)] = v -/
def vPutT (j : Nat) (ε : En) (r : R) (rs : List R) : O Fl :=
  match ress ε rs with
  | some dks => match toIs dks with
    | some is => match frz ε r with
      | some (d, ε3) => match ε3[j]? with
        | some (.own (.dT ks ds)) => if ks.length < 1000000 then .ok .nx (ε3.set j (.own (.dT (putks ks (kT is)) (putds ks ds (kT is) d)))) else .bad
        | _ => .bad
      | none => .bad
    | none => .bad
  | none => .bad
def dPutT (j : Nat) (fs : En → O (List R)) (fv : En → O R) : En → O Fl := fun ε =>
  match ε[j]? with
  | some (.own _) => (fv ε).bind fun r ε1 => (fs ε1).bind fun rs ε2 => if rs.length ≤ 1000 then vPutT j ε2 r rs else .bad
  | _ => .bad
theorem ds_putT (j : Nat) {x : Str} {kk : Nat} {tpos : Pos} (hu : X.A.units + 64 < cLine) (hx : PE X (.Name x px) (tVar j)) (ha : DA X T W es fs) (hv : DE X T W value fv) (hs : swapsWith value (some (.Subscript (.Name x px) (.Tuple es kk tpos) pos')) pos.line X.env = pure false := by rfl) :
    DS X T W P (.Assign [.Subscript (.Name x px) (.Tuple es kk tpos) pos'] value pos) (dPutT j fs fv) := by
  refine PS.imp (ps_dput (by omega) hx (pe_tup ha) hv hs) fun D σ H q => ?_
  obtain ⟨F, ε, k, p⟩ := q
  unfold dPutT at p
  split at p
  · rename_i d0 e0
    obtain ⟨a0, o0, s0, _, _, _⟩ := k.own j d0 e0
    refine tD_useS (g := fun r ε1 => (fs ε1).bind fun rs ε2 => if rs.length ≤ 1000 then vPutT j ε2 r rs else .bad) (S := SF X.K T H D) k Ext.refl (fun _ _ => rfl) p fun v F1 H1 r ε1 k1 x1 _ q1 n1 p1 => ?_
    refine ⟨.ref a0, s0, ?_⟩
    refine tDA_useS (g := fun rs ε2 => if rs.length ≤ 1000 then vPutT j ε2 r rs else .bad) (S := SF X.K T H D) k1 x1 (fun _ _ => rfl) p1 fun vs F2 H2 rs ε2 k2 x2 y2 q2 n2 nd p2 => ?_
    by_cases hl : rs.length ≤ 1000
    · rw [if_pos hl] at p2
      refine ⟨line1000 (by rw [q2.length]; exact hl), fun t ht => ?_⟩
      have xt : Ext F2 H2 σ ε2 F2 (upd H2 t (.tup vs)) σ ε2 := Ext.refl.alloc ht
      have kt : Ok X.K T F2 (upd H2 t (.tup vs)) σ ε2 := ok_alloc k2 ht
      unfold vPutT at p2
      split at p2
      · rename_i dks e1
        split at p2
        · rename_i is e2
          split at p2
          · rename_i d ε3 e3
            obtain ⟨F3, k3, x3, r3, s3, _⟩ := frz_ok (y2.trans xt) kt ((q1.ext x2).ext xt) n1 e3
            split at p2
            · rename_i ks ds e4
              split at p2
              · rename_i hlen
                obtain ⟨a1, o1, sa, f1, g1, q3⟩ := k3.own j _ e4
                rw [s0] at sa; cases sa
                obtain ⟨us, rfl, hl1, hr⟩ := rpO_dT.mp q3
                have hl2 : ks.length = us.length := by rw [hr.length]; exact hl1
                have hvs := rps_kT e2 (ress_rps k2 q2 e1)
                refine ⟨a0, upd (upd H2 t (.tup vs)) a0 (.dT (putK (ks.zip us) (kT is) v)), rfl, .inr ⟨_, kT is, t, g1, rfl, by rw [upd_same, hvs], line1M' (by rw [List.length_zip]; omega), rfl⟩, ?_⟩
                rw [put_zip ks us (kT is) v hl2]
                exact p2 F3 _ σ (ok_write k3 e4 s0 (show RpO X.K T F3 (.dT _ _) (.dT _) from ⟨_, rfl, put_len ks ds (kT is) d hl1, hr.putds r3⟩)) (x3.write e4 s0) fun _ _ => rfl
              · exact p2.elim
            · exact p2.elim
          · exact p2.elim
        · exact p2.elim
      · exact p2.elim
    · rw [if_neg hl] at p2; exact p2.elim
  · exact p.elim
/-- d.get(k, x) -/
def isDD : D → Bool
  | .dK _ _ => true
  | _ => false
def vGetD (ε : En) (r1 r2 r3 : R) : O R :=
  match res ε r1, res ε r2, res ε r3 with
  | some (.dK ks ds), some dk, some x => match toKey dk with
    | some k => match lkp ks ds k with
      | some d => .ok (.fz d) ε
      | none => if flat x = true then .ok (.fz x) ε else .bad
    | none => .bad
  | _, _, _ => .bad
def dGetD (fo fi fx : En → O R) : En → O R := fun ε => (fo ε).bind fun r1 ε1 => match res ε1 r1 with
  | some d => if isDD d = true then (fi ε1).bind fun r2 ε2 => (fx ε2).bind fun r3 ε3 => vGetD ε3 r1 r2 r3 else .bad
  | none => .bad
theorem de_getD {fx : En → O R} {x : Expr} {apos cpos : Pos} (hu : X.A.units + 64 < cLine) (ho : DE X T W o fo) (hi : DE X T W i fi) (hx : DE X T W x fx) (m : M2 X o "get" apos i x cpos) : DE X T W (.Call (.Attribute o "get" apos) [i, x] [] cpos) (dGetD fo fi fx) := by
  refine PE.imp (pe_dget2 (by omega) ho hi hx m) fun σ H Q q => ?_
  obtain ⟨F, ε, k, p⟩ := q
  refine tD_use (g := fun r1 ε1 => match res ε1 r1 with | some d => if isDD d = true then (fi ε1).bind fun r2 ε2 => (fx ε2).bind fun r3 ε3 => vGetD ε3 r1 r2 r3 else .bad | none => .bad) k Ext.refl p fun v1 F1 H1 r1 ε1 k1 x1 _ q1 n1 p1 => ?_
  split at p1
  · rename_i d e0
    split at p1
    · rename_i hd
      cases d with
      | dK ks0 ds0 =>
        obtain ⟨a, vs0, rfl, hd0, _, _⟩ := res_rpi k1 q1 e0
        refine ⟨a, rfl, .inl ⟨_, hd0⟩, ?_⟩
        refine tD_use (g := fun r2 ε2 => (fx ε2).bind fun r3 ε3 => vGetD ε3 r1 r2 r3) k1 x1 p1 fun v2 F2 H2 r2 ε2 k2 x2 y2 q2 n2 p2 => ?_
        refine tD_use (g := fun r3 ε3 => vGetD ε3 r1 r2 r3) k2 y2 p2 fun v3 F3 H3 r3 ε3 k3 x3 y3 q3 n3 p3 => ?_
        unfold vGetD at p3
        split at p3
        · rename_i ks ds dk x0 e1 e2 e3
          split at p3
          · rename_i key e4
            obtain ⟨b, vs, eb, hd3, hl, hr⟩ := res_rpi k3 ((q1.ext x2).ext x3) e1
            cases eb
            obtain ⟨i1, i2⟩ := hr.lkp (ks := ks) (k := key)
            refine ⟨lkp ks vs key, .inl ⟨_, key, hd3, toKey_rp e4 (res_rp k3 (q2.ext x3) e2), by rw [lkp_val]⟩, ?_⟩
            split at p3
            · rename_i d e5
              obtain ⟨v, ev, rv⟩ := i1 d e5
              rw [ev]
              exact SE.fin (r := .fz d) k3 y3 p3 rv (by simp [newA])
            · rename_i e5
              rw [i2 e5]
              split at p3
              · rename_i hf
                exact SE.flat (H' := H3) k3 y3 p3 hf (res_rp k3 q3 e3)
              · exact p3.elim
          · exact p3.elim
        · exact p3.elim
      | _ => cases hd
    · exact p1.elim
  · exact p1.elim
/-! ### sorted(d), keys ints -/
def toIK : List Key → Option (List Int)
  | [] => some []
  | .inl i :: ks => (toIK ks).map (i :: ·)
  | .inr _ :: _ => none
theorem toIK_map : ∀ {ks : List Key} {ns : List Int}, toIK ks = some ns → ks = ns.map Sum.inl
  | [], ns, e => by cases e; rfl
  | .inl i :: ks, ns, e => by
    unfold toIK at e
    cases h : toIK ks with
    | none => rw [h] at e; cases e
    | some ms => rw [h] at e; cases e; rw [toIK_map h]; rfl
  | .inr _ :: _, ns, e => by cases e
def gSortedD : List D → Option An
  | [.dK ks ds] => match toIK ks with
    | some ns => if ns.length < 64 then some (.nw (.lst ((srt ns).map .int))) else none
    | none => none
  | _ => none
theorem fn_sortedD {K : PySem.W.Frag} : FnA K T gSortedD (fun xs H Q => ∃ (a : Addr) (kvs : List (Key × V)) (ks : List Int), xs = [.ref a] ∧ Rd H a (.dK kvs) ∧ kvs.map (·.1) = ks.map Sum.inl ∧ ks.length < 64 ∧
    ∀ (ys : List Int) (p : Addr), ys.Perm ks → ys.Pairwise (· ≤ ·) → H p = none → Q (.ref p) (upd H p (.lst (ys.map V.int)))) := fun ds a vs F H Q e r s q => by
  unfold gSortedD at e
  split at e
  · rename_i ks es
    split at e
    · rename_i ns e1
      split at e
      · rename_i h64
        cases e
        obtain ⟨v, rfl, b, us, rfl, hd, hl, hr⟩ := rpis1 r
        refine ⟨b, _, ns, rfl, hd, ?_, h64, fun ys p hp hs hn => ?_⟩
        · rw [← toIK_map e1]
          exact List.map_fst_zip (by rw [hr.length]; omega)
        · rw [srt_of hp hs]
          exact nw_lst q p _ hn ((Rps.ints _ _).mpr rfl)
      · cases e
    · cases e
  · cases e
theorem de_sortedD (hc : X.calm = true) (gl : Gl X "sorted") (hm : X.mg "sorted" = none) (ha : DA X T W [e] fs) (he : starEach [e] X.env = (false, eval e X.env) :: starEach [] X.env := by rfl) : DE X T W (.Call (.Name "sorted" p) [e] [] pos) (dFn gSortedD fs) := de_fn (call_sortedDI hc) fn_sortedD gl hm ha (he := he)
end
end DL

/-! DL30: the order of data: tuples of ints and of such tuples -/
namespace DL
open PySem PySem.Spec PyProof.Rows L2
def rLtD (K : PySem.W.Frag) : R2 := fun x y H Q => ∃ d e, Dp K H x d ∧ Dp K H y e ∧ SeqAt.shaped d = true ∧ SeqAt.shaped e = true ∧ PySem.W.alike d e = true ∧ d ≠ .none ∧ Q (.bl (PySem.W.dataLt d e)) H
theorem op_ltD {X : Cx} (hu : X.A.units + 64 < cLine) : OpR X (compareOp .Lt) (rLtD X.K) := by
  intro pins s σ H x y v u Q I rx ry h
  obtain ⟨d, e, hd, he, sd, se, ha, hn, q⟩ := h
  obtain ⟨as, r1⟩ := Dp.reads I d x v hd rx
  obtain ⟨bs, r2⟩ := Dp.reads I e y u he ry
  exact PySem.W.lt_data r1 r2 ha hn (SeqAt.room_of_shaped sd hu) ⟨.bl _, H, I, rfl, q⟩
theorem toP_none {d : D} (h : sok d = true) : toP d ≠ .none ∨ d = .non := by
  cases d with
  | non => exact .inr rfl
  | bl b => exact .inl fun z => by cases z
  | int b => exact .inl fun z => by cases z
  | str b => exact .inl fun z => by cases z
  | tup b => exact .inl fun z => by cases z
  | lst b => exact .inl fun z => by cases z
  | _ => unfold sok at h; cases h
/-- two data that the order knows -/
def ltOk (d1 d2 : D) : Bool := okq d1 && okq d2 && PySem.W.alike (toP d1) (toP d2) && !isNon d1
def dLt (d1 d2 : D) : Bool := PySem.W.dataLt (toP d1) (toP d2)
def gLtD (d1 d2 : D) : Option D := if ltOk d1 d2 = true then some (.bl (dLt d1 d2)) else none
theorem ltOk_of {d1 d2 : D} (h : ltOk d1 d2 = true) : (sok d1 = true ∧ dep d1 ≤ 20) ∧ (sok d2 = true ∧ dep d2 ≤ 20) ∧ PySem.W.alike (toP d1) (toP d2) = true ∧ toP d1 ≠ .none := by
  unfold ltOk okq at h
  simp only [Bool.and_eq_true, decide_eq_true_eq, Bool.not_eq_true'] at h
  obtain ⟨⟨⟨⟨a1, a2⟩, b1, b2⟩, c⟩, d⟩ := h
  refine ⟨⟨a1, a2⟩, ⟨b1, b2⟩, c, ?_⟩
  rcases toP_none a1 with z | z
  · exact z
  · rw [z] at d; cases d
theorem op2_ltD {K : PySem.W.Frag} {T : Tab} : Op2 K T gLtD (rLtD K) := fun d1 d2 d x y H Q e r1 r2 q => by
  unfold gLtD at e
  split at e
  · rename_i h
    cases e
    obtain ⟨⟨a1, a2⟩, ⟨b1, b2⟩, c, n⟩ := ltOk_of h
    exact ⟨rfl, _, _, rp_dp d1 x a1 r1, rp_dp d2 y b1 r2, toP_shaped a1 a2, toP_shaped b1 b2, c, n, q _ (rp_bl.mpr rfl)⟩
  · cases e
section
variable {X : Cx} {T : Tab} {W : WX} {e a b c : Expr} {es : List Expr} {f fa fb fc : En → O R} {fs : En → O (List R)} {pos p : Pos}
theorem de_ltD (hu : X.A.units + 64 < cLine) (ha : DE X T W a fa) (hb : DE X T W b fb) : DE X T W (.Compare a [.Lt] [b] pos) (dOp2 gLtD fa fb) := de_cmp (op_ltD hu) op2_ltD ha hb (nomark _)
theorem dt_ltD (hu : X.A.units + 64 < cLine) (ha : DE X T W a fa) (hb : DE X T W b fb) : DT X T W (.Compare a [.Lt] [b] pos) (dTst (dOp2 gLtD fa fb)) := dt_cmp (op_ltD hu) op2_ltD ha hb (nomark _)
/-! ### min of a list of data -/
def minDD (x : D) (xs : List D) : D := xs.foldl (fun a y => if dLt y a = true then y else a) x
theorem minDD_toP : ∀ (xs : List D) (x : D), toP (minDD x xs) = PySem.W.minD (toP x) (xs.map toP)
  | [], x => rfl
  | y :: xs, x => by
    show toP (minDD (if dLt y x = true then y else x) xs) = PySem.W.minD (if PySem.W.dataLt (toP y) (toP x) then toP y else toP x) (xs.map toP)
    rw [minDD_toP xs]
    congr 1
    show toP (if PySem.W.dataLt (toP y) (toP x) = true then y else x) = _
    split <;> rfl
theorem minDD_mem : ∀ (xs : List D) (x : D), minDD x xs ∈ x :: xs
  | [], x => List.mem_cons_self
  | y :: xs, x => by
    have := minDD_mem xs (if dLt y x = true then y else x)
    show minDD (if dLt y x = true then y else x) xs ∈ _
    split at this
    · rename_i h; rw [if_pos h]; exact List.mem_cons_of_mem _ this
    · rename_i h
      rw [if_neg h]
      rcases List.mem_cons.mp this with z | z
      · rw [z]; exact List.mem_cons_self
      · exact List.mem_cons_of_mem _ (List.mem_cons_of_mem _ z)
mutual
theorem toP_inj : ∀ d e : D, sok d = true → sok e = true → toP d = toP e → d = e
  | .non, e, _, he, h => by cases e <;> first | (unfold sok at he; cases he; done) | rfl | (unfold toP at h; cases h)
  | .bl b, e, _, he, h => by cases e <;> first | (unfold sok at he; cases he; done) | (unfold toP at h; cases h; rfl) | (unfold toP at h; cases h)
  | .int b, e, _, he, h => by cases e <;> first | (unfold sok at he; cases he; done) | (unfold toP at h; cases h; rfl) | (unfold toP at h; cases h)
  | .str b, e, _, he, h => by cases e <;> first | (unfold sok at he; cases he; done) | (unfold toP at h; cases h; rfl) | (unfold toP at h; cases h)
  | .tup ds, .tup es, hd, he, h => by
    unfold toP at h
    unfold sok at hd he
    injection h with h
    rw [toPs_inj ds es hd he h]
  | .lst ds, .lst es, hd, he, h => by
    unfold toP at h
    unfold sok at hd he
    injection h with h
    rw [toPs_inj ds es hd he h]
  | .tup ds, .non, _, he, h => by unfold toP at h; cases h
  | .tup ds, .bl _, _, he, h => by unfold toP at h; cases h
  | .tup ds, .int _, _, he, h => by unfold toP at h; cases h
  | .tup ds, .str _, _, he, h => by unfold toP at h; cases h
  | .tup ds, .lst _, _, he, h => by unfold toP at h; cases h
  | .lst ds, .non, _, he, h => by unfold toP at h; cases h
  | .lst ds, .bl _, _, he, h => by unfold toP at h; cases h
  | .lst ds, .int _, _, he, h => by unfold toP at h; cases h
  | .lst ds, .str _, _, he, h => by unfold toP at h; cases h
  | .lst ds, .tup _, _, he, h => by unfold toP at h; cases h
  | .tup _, .dK _ _, _, he, _ => by unfold sok at he; cases he
  | .tup _, .dT _ _, _, he, _ => by unfold sok at he; cases he
  | .tup _, .dF _ _, _, he, _ => by unfold sok at he; cases he
  | .tup _, .fl _, _, he, _ => by unfold sok at he; cases he
  | .tup _, .ins _ _ _, _, he, _ => by unfold sok at he; cases he
  | .tup _, .fn _, _, he, _ => by unfold sok at he; cases he
  | .tup _, .ty _, _, he, _ => by unfold sok at he; cases he
  | .lst _, .dK _ _, _, he, _ => by unfold sok at he; cases he
  | .lst _, .dT _ _, _, he, _ => by unfold sok at he; cases he
  | .lst _, .dF _ _, _, he, _ => by unfold sok at he; cases he
  | .lst _, .fl _, _, he, _ => by unfold sok at he; cases he
  | .lst _, .ins _ _ _, _, he, _ => by unfold sok at he; cases he
  | .lst _, .fn _, _, he, _ => by unfold sok at he; cases he
  | .lst _, .ty _, _, he, _ => by unfold sok at he; cases he
  | .dK _ _, _, hd, _, _ => by unfold sok at hd; cases hd
  | .dT _ _, _, hd, _, _ => by unfold sok at hd; cases hd
  | .dF _ _, _, hd, _, _ => by unfold sok at hd; cases hd
  | .fl _, _, hd, _, _ => by unfold sok at hd; cases hd
  | .ins _ _ _, _, hd, _, _ => by unfold sok at hd; cases hd
  | .fn _, _, hd, _, _ => by unfold sok at hd; cases hd
  | .ty _, _, hd, _, _ => by unfold sok at hd; cases hd
theorem toPs_inj : ∀ ds es : List D, soks ds = true → soks es = true → toPs ds = toPs es → ds = es
  | [], [], _, _, _ => rfl
  | [], _ :: _, _, _, h => by unfold toPs at h; cases h
  | _ :: _, [], _, _, h => by unfold toPs at h; cases h
  | d :: ds, e :: es, hd, he, h => by
    unfold toPs at h
    unfold soks at hd he
    rw [Bool.and_eq_true] at hd he
    injection h with h1 h2
    rw [toP_inj d e hd.1 he.1 h1, toPs_inj ds es hd.2 he.2 h2]
end
theorem toPs_map : ∀ ds : List D, toPs ds = ds.map toP
  | [] => by unfold toPs; rfl
  | d :: ds => by unfold toPs; rw [toPs_map ds, List.map_cons]
def rMinD (K : PySem.W.Frag) : List V → Hp → VK → Prop := fun xs H Q => ∃ (a : Addr) (vs : List V) (d : PyData) (ds : List PyData), xs = [.ref a] ∧ SqL K H a vs ∧ DpAll K H vs (d :: ds) ∧ PySem.W.AlikeAll (d :: ds) ∧ PyData.canLayAll0 (d :: ds) = true ∧ PyData.depthAll (d :: ds) ≤ 20 ∧
  ∀ (i : Nat) (v : V), vs[i]? = some v → (d :: ds)[i]? = some (PySem.W.minD d ds) → Q v H
theorem dpAll_get {K : PySem.W.Frag} {H : Hp} {vs : List V} {ds : List PyData} (h : DpAll K H vs ds) : ∀ {i : Nat} {v : V}, vs[i]? = some v → ∃ d, ds[i]? = some d ∧ Dp K H v d := by
  induction vs generalizing ds with
  | nil => intro i v e; simp at e
  | cons u vs ih =>
    cases h with
    | cons h1 h2 =>
      intro i v e
      cases i with
      | zero => simp at e; subst e; exact ⟨_, rfl, h1⟩
      | succ i =>
        obtain ⟨d', e1, h3⟩ := ih h2 (i := i) (v := v) (by simpa using e)
        exact ⟨d', by simpa using e1, h3⟩
theorem canLay_mem : ∀ {ds : List PyData} {d : PyData}, PyData.canLayAll0 ds = true → d ∈ ds → PyData.canLay0 d = true
  | [], d, _, h => by simp at h
  | e :: ds, d, h, hm => by
    unfold PyData.canLayAll0 at h
    rw [Bool.and_eq_true] at h
    rcases List.mem_cons.mp hm with z | z
    · rw [z]; exact h.1
    · exact canLay_mem h.2 z
theorem cr_minD {X : Cx} (hc : X.calm = true) (hu : X.A.units + 64 < cLine) : CallR X (.builtin "min") (rMinD X.K) := by
  intro pins s σ H xs us Q I r h
  obtain ⟨a, vs, d, ds, rfl, hs, hd, ha, hl, hdp, q⟩ := h
  obtain ⟨its, rv, p, hz⟩ := I.list hs
  rw [Vals.ref1 r]
  obtain ⟨as, rs⟩ := Dp.readsAll I (d :: ds) vs its hd rv
  refine PySem.W.min_list_data (I.ok.hd hc) p.isList (by simpa using rs) ha (by omega) fun i v h' tk bs hv hr hk => ?_
  have hv : its[i]? = some v := by simpa using hv
  have I' : Inv X pins σ H { s with heap := h', toks := tk } := I.kept hk
  obtain ⟨x, ex, rx⟩ : ∃ x, vs[i]? = some x ∧ RelV x v := by
    have hlen := rv.length
    have hi : i < its.length := (List.getElem?_eq_some_iff.mp hv).1
    have hi' : i < vs.length := by omega
    obtain ⟨u, eu, ru⟩ := rv.get (List.getElem?_eq_getElem hi')
    rw [hv] at eu
    cases eu
    exact ⟨_, List.getElem?_eq_getElem hi', ru⟩
  obtain ⟨d', ed, hd'⟩ := dpAll_get hd ex
  obtain ⟨as', r'⟩ := Dp.reads I' d' x v hd' rx
  have e : d' = PySem.W.minD d ds := PySem.SeqAt.Reads.unique d' _ v as' bs (canLay_mem hl (List.mem_of_getElem? ed)) r' hr
  exact ⟨x, H, I', rx, q i x ex (by rw [ed, e])⟩
def minOk (d : D) (ds : List D) : Bool := soks (d :: ds) && decide (deps (d :: ds) ≤ 20) && ((d :: ds).all fun x => (d :: ds).all fun y => PySem.W.alike (toP x) (toP y)) && ((d :: ds).all fun x => !isNon x)
def gMinD : List D → Option An
  | [.lst (d :: ds)] => if minOk d ds = true then some (.fz (minDD d ds)) else none
  | _ => none
theorem soks_mem : ∀ {ds : List D} {d : D}, soks ds = true → d ∈ ds → sok d = true
  | [], d, _, h => by simp at h
  | e :: ds, d, h, hm => by
    unfold soks at h
    rw [Bool.and_eq_true] at h
    rcases List.mem_cons.mp hm with z | z
    · rw [z]; exact h.1
    · exact soks_mem h.2 z
theorem fn_minD {K : PySem.W.Frag} {T : Tab} : FnA K T gMinD (rMinD K) := fun ds a vs F H Q e r s q => by
  unfold gMinD at e
  split at e
  · rename_i d es
    split at e
    · rename_i h
      cases e
      obtain ⟨v, rfl, b, us, rfl, hs, hr⟩ := rpis1 r
      unfold minOk at h
      simp only [Bool.and_eq_true, decide_eq_true_eq] at h
      obtain ⟨⟨⟨h1, h2⟩, h3⟩, h4⟩ := h
      have hrH := Rps.mono s _ _ hr
      have hd := rps_dp (d :: es) us h1 hrH
      unfold toPs at hd
      refine ⟨b, us, toP d, toPs es, rfl, hs, hd, ⟨fun x hx y hy => ?_, fun x hx => ?_⟩, ?_, ?_, fun i v hv hi => ?_⟩
      · have hx' : x ∈ (d :: es).map toP := by rw [← toPs_map]; unfold toPs; exact hx
        have hy' : y ∈ (d :: es).map toP := by rw [← toPs_map]; unfold toPs; exact hy
        obtain ⟨dx, mx, rfl⟩ := List.mem_map.mp hx'
        obtain ⟨dy, my, rfl⟩ := List.mem_map.mp hy'
        exact List.all_eq_true.mp (List.all_eq_true.mp h3 dx mx) dy my
      · have hx' : x ∈ (d :: es).map toP := by rw [← toPs_map]; unfold toPs; exact hx
        obtain ⟨dx, mx, rfl⟩ := List.mem_map.mp hx'
        have := List.all_eq_true.mp h4 dx mx
        rcases toP_none (soks_mem h1 mx) with z | z
        · exact z
        · rw [z] at this; cases this
      · have := toPs_lay (d :: es) h1
        unfold toPs at this
        exact this
      · have := toPs_dep (d :: es) h1
        unfold toPs at this
        rw [this]; exact h2
      · have e1 : (toP d :: toPs es)[i]? = some (toP (minDD d es)) := by rw [minDD_toP, ← toPs_map]; exact hi
        obtain ⟨dx, ex, rx⟩ := hr.get' hv
        have e2 : (toP d :: toPs es)[i]? = some (toP dx) := by
          have : (toPs (d :: es))[i]? = some (toP dx) := by rw [toPs_map, List.getElem?_map, ex]; rfl
          unfold toPs at this
          exact this
        rw [e2] at e1
        have e3 := toP_inj dx (minDD d es) (soks_mem h1 (List.mem_of_getElem? ex)) (soks_mem h1 (minDD_mem es d)) (Option.some.inj e1)
        rw [e3] at rx
        exact q v rx
    · cases e
  · cases e
theorem de_minD (hc : X.calm = true) (hu : X.A.units + 64 < cLine) (gl : Gl X "min") (hm : X.mg "min" = none) (ha : DA X T W [e] fs) (he : starEach [e] X.env = (false, eval e X.env) :: starEach [] X.env := by rfl) : DE X T W (.Call (.Name "min" p) [e] [] pos) (dFn gMinD fs) := de_fn (cr_minD hc hu) fn_minD gl hm ha (he := he)
end
end DL

/-! DL31: a dict of one written pair; dict(pairs) -/
namespace DL
open PySem PySem.Spec PyProof.Rows L2
section
variable {X : Cx} {T : Tab} {W : WX} {e : Expr} {f : En → O R} {fs : En → O (List R)} {pos p : Pos}
def vDisp1 (n : Int) (ε : En) (r : R) : O R :=
  match frz ε r with
  | some (d, ε1) => .ok (.new (.dK [.inl n] [d])) ε1
  | none => .bad
def dDisp1 (n : Int) (f : En → O R) : En → O R := fun ε => (f ε).bind fun r ε1 => vDisp1 n ε1 r
theorem de_disp1 {n : Int} {j : Nat} {kpos : Pos} (h : DE X T W e f) : DE X T W (.Dict [some (.Constant (.int n) j kpos)] [e] pos) (dDisp1 n f) := by
  refine PE.imp (pe_disp (pps_cons pe_int h pps_nil) rfl rfl (by simp) (by simp)) fun σ H Q q => ?_
  obtain ⟨F, ε, k, q⟩ := q
  intro a ha
  have kA : Ok X.K T F (upd H a (.dK [])) σ ε := ok_alloc k ha
  have no := not_own_fresh k ha
  show tD X.K T W f σ (upd H a (.dK [])) _
  refine tD_use (g := fun r ε1 => vDisp1 n ε1 r) kA (Ext.refl.alloc ha) q fun v F1 H1 r ε1 k1 x0 x1 q1 n1 p1 => ?_
  unfold vDisp1 at p1
  split at p1
  · rename_i d ε2 e1
    have n2 : ∀ b ∈ newA r v, H b = none := fun b hb => by
      have z := n1 b hb
      by_cases y : b = a
      · rw [y]; exact ha
      · rw [upd_ne y] at z; exact z
    obtain ⟨F2, k2, x2, r2, s2, fr2, ow2⟩ := frz_ok x1 k1 q1 n2 e1
    have h1 : H1 a = some (.dK []) := x0.hk a _ upd_same no
    have f1 : F1 a = none := by
      cases z : F1 a with
      | none => rfl
      | some u =>
        rcases x0.fn a (by rw [z]; simp) with z2 | z2 | z2
        · exact absurd (free_of k ha) z2
        · rw [upd_same] at z2; cases z2
        · exact absurd z2 no
    have no1 : ¬ OwnAt σ ε1 a := fun z => by
      rcases x0.on a z with z | z
      · exact no z
      · rw [upd_same] at z; cases z
    have no2 : ¬ OwnAt σ ε2 a := fun z => no1 (ow2 a z)
    have f2 : F2 a = none := by
      cases z : F2 a with
      | none => rfl
      | some u =>
        rcases fr2 a (by rw [z]; simp) with z2 | z2 | z2
        · exact absurd f1 z2
        · have z3 := n1 a z2
          rw [upd_same] at z3; cases z3
        · exact absurd z2 no1
    refine ⟨h1, [(.inl n, v)], rfl, by simp, ?_⟩
    show Q (.ref a) (upd H1 a (.dK [(.inl n, v)]))
    have k3 : Ok X.K T F2 (upd H1 a (.dK [(.inl n, v)])) σ ε2 := by
      refine ⟨fun b u z => ?_, k2.len, k2.fz, fun i d' z => ?_, k2.sep⟩
      · rw [upd_ne fun w => by rw [w, f2] at z; cases z]; exact k2.sub b u z
      · obtain ⟨b, o, z1, z2, z3, z4⟩ := k2.own i d' z
        refine ⟨b, o, z1, z2, ?_, z4⟩
        rw [upd_ne fun w => no2 ⟨i, d', z, by rw [← w]; exact z1⟩]; exact z3
    have x3 : Ext F H σ ε F2 (upd H1 a (.dK [(.inl n, v)])) σ ε2 := by
      refine ⟨x2.fs, fun b o z w => ?_, fun b z => ?_, x2.fn, x2.on⟩
      · rw [upd_ne fun y => by rw [y, ha] at z; cases z]; exact x2.hk b o z w
      · by_cases y : b = a
        · subst y; rw [upd_same] at z; cases z
        · rw [upd_ne y] at z; exact x2.ht b z
    exact p1 F2 _ k3 x3 (.ref a) ⟨a, _, rfl, f2, upd_same, ⟨[v], rfl, rfl, rps_cons.mpr ⟨v, [], rfl, r2, rps_nil.mpr rfl⟩⟩, no2⟩ fun b hb => by
      have e : b = a := by simpa [newA] using hb
      subst e; exact ha
  · exact p1.elim
/-! ### sorted(tuple of ints) -/
theorem call_sortedTu (hcalm : X.calm = true) : CallR X (.builtin "sorted") (fun xs H Q => ∃ (a : Addr) (ns : List Int), xs = [.ref a] ∧ SqT X.K H a (ns.map V.int) ∧ ns.length < 64 ∧
    ∀ (ys : List Int) (p : Addr), ys.Perm ns → ys.Pairwise (· ≤ ·) → H p = none → Q (.ref p) (upd H p (.lst (ys.map V.int)))) := by
  intro pins s σ H xs us Q I r q
  obtain ⟨a, ns, ex, hd, h64, q⟩ := q
  subst ex
  obtain ⟨u, eu, rx⟩ := vals1 r
  subst eu
  cases rx
  obtain ⟨its, rel, ⟨o, ho, hc, n, hdat⟩, hz⟩ := I.tuple hd
  have hS := rel.ints
  have hl : its.length = ns.length := hS.length
  refine Calls.call_function_entry PyProof.Rows.kind_sorted PyProof.Rows.plain_sorted PyProof.Rows.entry_sorted (PyProof.Rows.args_sorted1 _) ?_
  unfold Builtin.«sorted»
  refine wpAny_bind (m := checkCount "sorted" 1 1 _) (wpAny_pure ?_)
  refine wpAny_bind (wpAny_collect_seq a (.inr rfl) ho hc hdat (fun h' hk => ?_) (by rw [List.size_toArray, hl, sizeLine_eq]; omega))
  have I1 : Inv X pins σ H { s with heap := h', toks := s.toks } := I.kept hk
  show wpAny _ _ _ _ _ { s with heap := h' }
  refine wpAny_bind (wpAny_newList ?_ (by simp only [List.toList_toArray]; rw [hl, sizeLine_eq]; omega))
  simp only [List.toList_toArray]
  have hoL : (h'.push (seqObj "list" its.toArray 0)).get? h'.objs.size = some (seqObj "list" its.toArray 0) := Heap.get?_push_size _ rfl
  show wpAny _ _ _ _ _ { s with heap := h'.push (seqObj "list" its.toArray 0) }
  refine wpAny_bind (wpAny_holding (wpAny_call_entry PyProof.Rows.slot_list_sort ⟨_, hoL, rfl⟩ PyProof.Rows.entry_list_sort
    (PyProof.Rows.list_sort_tree (s := { s with heap := h'.push (seqObj "list" its.toArray 0) }) hoL hS (by rw [hl]; exact h64) fun out ys g1 g2 g3 => ⟨_, rfl, ?_⟩) (PyProof.Rows.args_list_sort _)))
  obtain ⟨e', he'⟩ := PyProof.Rows.sortedHeap_at (vs := its) (out := out) hoL
  have hlen : (ys.map V.int).length ≤ sizeLine := by
    rw [List.length_map, g2.length_eq]
    exact Nat.le_trans (Nat.le_of_lt h64) (by decide)
  refine wpAny_pure ⟨_, rfl, .ref h'.objs.size, upd H h'.objs.size (.lst (ys.map V.int)), I1.laid (t' := s.toks) (fun b u e => ?_) (Nat.le_refl _)
    (show ObjOk X.prog X.w _ _ _ (.lst (ys.map V.int)) from ⟨hlen, out.toList, e', vals_of_ints g1, by rw [Array.toArray_toList]; exact he'⟩), rfl, q ys _ g2 g3 (I1.hok.fresh (Nat.le_refl _))⟩
  have hb : b < h'.objs.size := Heap.lt_size e
  rw [PyProof.Rows.sortedHeap_old (Nat.ne_of_lt hb) (by rw [size_push']; exact Nat.lt_succ_of_lt hb)]
  exact Heap.get?_push_of_some _ e
def gSortedTu : List D → Option An
  | [.tup ds] => match toIs ds with
    | some ns => if ns.length < 64 then some (.nw (.lst ((srt ns).map .int))) else none
    | none => none
  | _ => none
theorem fn_sortedTu {K : PySem.W.Frag} : FnA K T gSortedTu (fun xs H Q => ∃ (a : Addr) (ns : List Int), xs = [.ref a] ∧ SqT K H a (ns.map V.int) ∧ ns.length < 64 ∧
    ∀ (ys : List Int) (p : Addr), ys.Perm ns → ys.Pairwise (· ≤ ·) → H p = none → Q (.ref p) (upd H p (.lst (ys.map V.int)))) := fun ds a vs F H Q e r s q => by
  unfold gSortedTu at e
  split at e
  · rename_i ds
    split at e
    · rename_i ns e1
      split at e
      · rename_i h64
        cases e
        obtain ⟨v, rfl, b, us, rfl, hq, hr⟩ := rpis1 r
        rw [rps_ints e1 hr] at hq
        refine ⟨b, ns, rfl, (hq.mono s).t, h64, fun ns' p hp hs hn => ?_⟩
        rw [srt_of hp hs]
        exact nw_lst q p _ hn ((Rps.ints _ _).mpr rfl)
      · cases e
    · cases e
  · cases e
theorem de_sortedTu (hc : X.calm = true) (gl : Gl X "sorted") (hm : X.mg "sorted" = none) (ha : DA X T W [e] fs) (he : starEach [e] X.env = (false, eval e X.env) :: starEach [] X.env := by rfl) : DE X T W (.Call (.Name "sorted" p) [e] [] pos) (dFn gSortedTu fs) := de_fn (call_sortedTu hc) fn_sortedTu gl hm ha (he := he)
end
end DL

/-! DL32: dict(a tuple of pairs) -/
namespace DL
open PySem PySem.Spec PyProof.Rows L2
section
variable {X : Cx} {T : Tab} {W : WX} {e : Expr} {f : En → O R} {fs : En → O (List R)} {pos p : Pos}
def get2 (h : Heap) (b : Addr) : Value × Value :=
  match h.get? b with
  | some o => match o.data with
    | .seq xs _ => (xs.toList.headD .none, xs.toList.tail.headD .none)
    | _ => (.none, .none)
  | none => (.none, .none)
theorem get2_eq {h : Heap} {b : Addr} {u v : Value} (t : IsTup h b #[u, v]) : get2 h b = (u, v) := by
  obtain ⟨o, ho, hc, n, hd⟩ := t
  unfold get2
  rw [ho]
  simp only [hd]
  rfl
theorem call_dictPT (hcalm : X.calm = true) : CallR X (.type "dict") (fun xs H Q => ∃ (a : Addr) (ps : List Addr) (kvs : List (Key × V)), xs = [.ref a] ∧ SqN X.K H a (ps.map V.ref) ∧ Paired (fun p kv => SqT X.K H p [kV kv.1, kv.2]) ps kvs ∧
    ∀ p, H p = none → Q (.ref p) (upd H p (.dK (mergeK [] kvs)))) := by
  intro pins s σ H xs us Q I r q
  obtain ⟨a, ps, kvs, ex, hq, hp, q⟩ := q
  subst ex
  obtain ⟨u, eu, rx⟩ := vals1 r
  subst eu
  cases rx
  obtain ⟨its, rv, ⟨o, ho, hc, n, hdat⟩, hz⟩ := I.tuple hq.t
  obtain ⟨ob, hob, hod⟩ := (sqN_ty I hq).2 a rfl
  rw [ho] at hob
  cases hob
  have ei := refs_at rv
  subst ei
  rw [List.length_map] at hz
  obtain ⟨prs, rel, hl, hpr⟩ := pairs_of I hp
  have hps : (ps.map (get2 s.heap)).length = ps.length := List.length_map ..
  have hat : ∀ j, j < ps.length → ∃ b q u, ps[j]? = some b ∧ prs[j]? = some q ∧ IsTup s.heap b #[u, q.2] ∧ keyIs q.1 u = true := fun j hj => by
    obtain ⟨q', e⟩ : ∃ q, prs[j]? = some q := ⟨prs[j], List.getElem?_eq_getElem (by omega)⟩
    obtain ⟨b, u, e1, e2, e3⟩ := hpr j q' e
    exact ⟨b, q', u, e1, e, e2, e3⟩
  refine PySem.call_dict_pairs (knd := mixKind X.prog X.w) (kvs := prs) (PySem.PairArg.tuple a (ps.map Value.ref).toArray (fun j => ps.getD j 0) (ps.map (get2 s.heap))) (I.ok.hd hcalm)
    ⟨⟨o, n, ho, hc, hod, hdat⟩, by simp, fun j k v hj => ?_⟩ ⟨by simp [hl], fun i key v hi => ?_⟩ (by rw [List.length_map]; exact hz) fun h' tk hd' k => ?_
  · obtain ⟨b, q', u, e1, e2, e3, e4⟩ := hat j (by have := (List.getElem?_eq_some_iff.mp hj).1; omega)
    rw [List.getElem?_map, e1, Option.map_some, get2_eq e3] at hj
    cases hj
    refine ⟨by simp [e1], .inl ?_⟩
    show s.heap.IsTuple (ps.getD j 0) _
    rw [List.getD_eq_getElem?_getD, e1]
    exact e3
  · obtain ⟨b, q', u, e1, e2, e3, e4⟩ := hat i (by have := (List.getElem?_eq_some_iff.mp (show _ = some (key, v) from hi)).1; omega)
    have hi : (ps.map (get2 s.heap))[i]? = some (key, v) := hi
    rw [List.getElem?_map, e1, Option.map_some, get2_eq e3] at hi
    cases hi
    exact ⟨q'.1, e2, e4⟩
  · have hm : (s.heap.objs.size == sysModules) = false := beq_eq_false_iff_ne.mpr (Nat.ne_of_gt I.big)
    have hlen : (mergeK [] kvs).length ≤ sizeLine := by
      refine Nat.le_trans (length_mergeK kvs []) ?_
      rw [List.length_nil, Nat.zero_add, rel.length, hl]
      exact hz
    exact ⟨.ref s.heap.objs.size, upd H s.heap.objs.size (.dK (mergeK [] kvs)), I.laid (t' := tk) (fun b o e => k b o (by simp) e) (Nat.le_refl _) (show ObjOk X.prog X.w _ _ _ (.dK (mergeK [] kvs)) from ⟨hlen, hm, merged [] prs, KV.merge rel .nil, hd'⟩), rfl, q _ (I.hok.fresh (Nat.le_refl _))⟩
def toPair : D → Option (Key × D)
  | .tup [dk, d] => (toKey dk).map fun k => (k, d)
  | _ => none
def toPairs : List D → Option (List (Key × D))
  | [] => some []
  | d :: ds => match toPair d, toPairs ds with
    | some p, some ps => some (p :: ps)
    | _, _ => none
def mrg : List Key → List D → List (Key × D) → List Key × List D
  | ks, ds, [] => (ks, ds)
  | ks, ds, q :: r => mrg (putks ks q.1) (putds ks ds q.1 q.2) r
def gDictP : List D → Option An
  | [.tup ds] => match toPairs ds with
    | some ps => some (.nw (.dK (mrg [] [] ps).1 (mrg [] [] ps).2))
    | none => none
  | _ => none
theorem toPairs_rp {K : PySem.W.Frag} {F H : Hp} (s : Same F H) : ∀ {ds : List D} {ps : List (Key × D)} {vs : List V}, toPairs ds = some ps → Rps K T F ds vs →
    ∃ (as : List Addr) (us : List V), vs = as.map V.ref ∧ Rps K T F (ps.map (·.2)) us ∧ Paired (fun p kv => SqT K H p [kV kv.1, kv.2]) as ((ps.map (·.1)).zip us)
  | [], ps, vs, e, r => by
    cases e
    rw [rps_nil.mp r]
    exact ⟨[], [], rfl, rps_nil.mpr rfl, .nil⟩
  | d :: ds, ps, vs, e, r => by
    unfold toPairs at e
    split at e
    · rename_i q qs e1 e2
      cases e
      obtain ⟨v, w, rfl, r1, r2⟩ := rps_cons.mp r
      obtain ⟨as, us, rfl, h1, h2⟩ := toPairs_rp s e2 r2
      unfold toPair at e1
      split at e1
      · rename_i dk d'
        cases e3 : toKey dk with
        | none => rw [e3] at e1; cases e1
        | some k =>
          rw [e3] at e1
          cases e1
          obtain ⟨a, ws, rfl, hq, hr⟩ := rp_tup.mp r1
          obtain ⟨v1, w1, rfl, g1, g2⟩ := rps_cons.mp hr
          obtain ⟨v2, w2, rfl, g3, g4⟩ := rps_cons.mp g2
          rw [rps_nil.mp g4] at hq
          have := toKey_rp e3 g1
          subst this
          exact ⟨a :: as, v2 :: us, rfl, rps_cons.mpr ⟨v2, us, rfl, g3, h1⟩, .cons (hq.mono s).t h2⟩
      · cases e1
    · cases e
theorem mrg_zip {K : PySem.W.Frag} {F : Hp} : ∀ (ps : List (Key × D)) (us : List V) (ks : List Key) (ds : List D) (vs : List V), Rps K T F (ps.map (·.2)) us → Rps K T F ds vs → ks.length = ds.length →
    ∃ ws, mergeK (ks.zip vs) ((ps.map (·.1)).zip us) = (mrg ks ds ps).1.zip ws ∧ (mrg ks ds ps).1.length = (mrg ks ds ps).2.length ∧ Rps K T F (mrg ks ds ps).2 ws
  | [], us, ks, ds, vs, h, r, hl => ⟨vs, rfl, hl, r⟩
  | q :: ps, us, ks, ds, vs, h, r, hl => by
    obtain ⟨u, w, rfl, h1, h2⟩ := rps_cons.mp h
    have hl2 : ks.length = vs.length := by rw [r.length]; exact hl
    obtain ⟨ws, e, el, er⟩ := mrg_zip ps w (putks ks q.1) (putds ks ds q.1 q.2) (putds ks vs q.1 u) h2 (r.putds h1) (put_len ks ds q.1 q.2 hl)
    refine ⟨ws, ?_, el, er⟩
    rw [show mrg ks ds (q :: ps) = mrg (putks ks q.1) (putds ks ds q.1 q.2) ps from rfl, ← e, ← put_zip ks vs q.1 u hl2]
    rfl
theorem fn_dictP {K : PySem.W.Frag} : FnA K T gDictP (fun xs H Q => ∃ (a : Addr) (ps : List Addr) (kvs : List (Key × V)), xs = [.ref a] ∧ SqN K H a (ps.map V.ref) ∧ Paired (fun p kv => SqT K H p [kV kv.1, kv.2]) ps kvs ∧
    ∀ p, H p = none → Q (.ref p) (upd H p (.dK (mergeK [] kvs)))) := fun ds a vs F H Q e r s q => by
  unfold gDictP at e
  split at e
  · rename_i ds
    split at e
    · rename_i ps e1
      cases e
      obtain ⟨v, rfl, b, us, rfl, hq, hr⟩ := rpis1 r
      obtain ⟨as, ws, rfl, h1, h2⟩ := toPairs_rp s e1 hr
      obtain ⟨zs, z1, z2, z3⟩ := mrg_zip ps ws [] [] [] h1 (rps_nil.mpr rfl) rfl
      refine ⟨b, as, _, rfl, hq.mono s, h2, fun p hp => ?_⟩
      have z1 : mergeK [] ((ps.map (·.1)).zip ws) = (mrg [] [] ps).1.zip zs := z1
      rw [z1]
      exact q p _ hp (rpO_dK.mpr ⟨zs, rfl, z2, z3⟩)
    · cases e
  · cases e
theorem de_dictP (hc : X.calm = true) (gl : Gl X "dict") (hm : X.mg "dict" = none) (ha : DA X T W [e] fs) (he : starEach [e] X.env = (false, eval e X.env) :: starEach [] X.env := by rfl) : DE X T W (.Call (.Name "dict" p) [e] [] pos) (dFn gDictP fs) := de_fnTy (call_dictPT hc) fn_dictP gl hm ha (he := he)
end
end DL

/-! DL33: comprehensions with two fors -/
namespace DL
open PySem PySem.Spec PyProof.Rows L2
section
variable {K : PySem.W.Frag} {T : Tab} {W : WX} {F0 H0 F H F' H' : Hp} {σ σ' : L2.St} {ε ε' : En} {D : Addr} {va : List V} {vs : List Nat}
/-- the growing list at D: no slot owns it, nobody froze it -/
structure DkL (F H : Hp) (σ : L2.St) (ε : En) (D : Addr) (va : List V) : Prop where
  h : H D = some (.lst va)
  f : F D = none
  n : ¬ OwnAt σ ε D
theorem DkL.ext (k : DkL F H σ ε D va) (x : Ext F H σ ε F' H' σ' ε') : DkL F' H' σ' ε' D va where
  h := x.hk _ _ k.h k.n
  f := by
    cases z : F' D with
    | none => rfl
    | some u =>
      rcases x.fn D (by rw [z]; simp) with w | w | w
      · exact absurd k.f w
      · rw [k.h] at w; cases w
      · exact absurd w k.n
  n := fun z => by
    rcases x.on D z with w | w
    · exact k.n w
    · rw [k.h] at w; cases w
theorem DkL.grow (k : DkL F H σ ε D va) (s : Same H H') (fr : ∀ a, F' a ≠ none → F a ≠ none ∨ H a = none) : DkL F' H' σ ε D va where
  h := s _ _ k.h
  f := by
    cases z : F' D with
    | none => rfl
    | some u =>
      rcases fr D (by rw [z]; simp) with w | w
      · exact absurd k.f w
      · rw [k.h] at w; cases w
  n := k.n
theorem DkL.wipe (k : DkL F H σ ε D va) : DkL F H (L2.wipe σ vs) (wipeE ε vs) D va := ⟨k.h, k.f, fun z => k.n (own_wipe z)⟩
end
section
variable {K : PySem.W.Frag} {T : Tab} {W : WX} {F H F3 H3 : Hp} {σ σ2 : L2.St} {ε ε3 : En} {D : Addr} {va : List V} {vs vs1 tgs tgs1 : List Nat} {gg gg1 : DL.D → En → Option En} {ft ft1 : En → O Bool} {fe : En → O R}
/-- the inner turns -/
theorem lc_in {fin : O (List DL.D) → O R} {S : R → En → Hp → Hp → Prop} {J1 : It} {ds1 acc : List DL.D} {n : Nat} {Nx : Hp → Prop} (hb : ¬ Po K T W F H σ ε (fin .bad) S) (htg : ∀ j ∈ tgs1, j ∈ vs1)
    (k3 : Ok K T F3 H3 σ2 ε3) (x3 : Ext F H σ ε F3 H3 σ2 ε3) (dk : DkL F3 H3 σ2 ε3 D va) (hD0 : H D = none) (ra : Rps K T F3 acc va) (la : acc.length ≤ n) (hn : n + ds1.length ≤ 1000000) (yj : YJ K T F3 J1 ds1)
    (p : Po K T W F H σ ε (fin (lcLoop gg1 ft1 fe vs1 ds1 (wipeE ε3 vs1) acc)) S)
    (hst : ∀ F' H' ε' acc' va', Ok K T F' H' (L2.wipe σ2 vs1) ε' → Ext F H σ ε F' H' (L2.wipe σ2 vs1) ε' → Same F3 F' → DkL F' H' (L2.wipe σ2 vs1) ε' D va' → Rps K T F' acc' va' → acc'.length ≤ n + ds1.length → Po K T W F H σ ε (fin (.ok acc' ε')) S → Nx H') :
    ∃ W1 : Nat → Nat → Hp → Prop, (∃ m, W1 0 m H3) ∧ ∀ j k H, W1 j k H →
      (J1.stop j H ∧ Nx H) ∨ (J1.go j H ∧ ∃ Nx1 : Hp → Prop, (∀ H', Nx1 H' → ∃ k', k' < k ∧ W1 (j + 1) k' H') ∧ ∀ x H', J1.yld j H x H' → tDG K T tgs1 gg1 x (L2.wipe σ2 vs1) H' fun σ3 H5 => L2.wipe σ3 vs1 = L2.wipe σ2 vs1 ∧ tDT K T W0 ft1 σ3 H5 fun b H6 =>
        if b = true then tD K T W0 fe σ3 H6 fun y H7 => ∃ acc, H7 D = some (.lst acc) ∧ acc.length < sizeLine ∧ Nx1 (upd H7 D (.lst (acc ++ [y]))) else Nx1 H6) := by
  refine ⟨fun j m H2 => m = ds1.length - j ∧ j ≤ ds1.length ∧ ∃ F2 ε2 acc va, Ok K T F2 H2 (L2.wipe σ2 vs1) ε2 ∧ Ext F H σ ε F2 H2 (L2.wipe σ2 vs1) ε2 ∧ Same F3 F2 ∧ DkL F2 H2 (L2.wipe σ2 vs1) ε2 D va ∧ Rps K T F2 acc va ∧ acc.length ≤ n + j ∧
    Po K T W F H σ ε (fin (lcLoop gg1 ft1 fe vs1 (ds1.drop j) ε2 acc)) S, ⟨ds1.length, by simp, Nat.zero_le _, F3, wipeE ε3 vs1, acc, va, ok_wipe k3, x3.wipe, Same.refl _, dk.wipe, ra, la, p⟩, ?_⟩
  rintro i m H2 ⟨rfl, hi, F2, ε2, acc, vacc, k2, x2, s2, d2, ra, la, p2⟩
  obtain ⟨y1, y2⟩ := yj F2 H2 s2 k2.sub
  by_cases hlt : i < ds1.length
  · right
    obtain ⟨go, y1⟩ := y1 i hlt
    refine ⟨go, fun H3 => ∃ F2 ε2 acc va, Ok K T F2 H3 (L2.wipe σ2 vs1) ε2 ∧ Ext F H σ ε F2 H3 (L2.wipe σ2 vs1) ε2 ∧ Same F3 F2 ∧ DkL F2 H3 (L2.wipe σ2 vs1) ε2 D va ∧ Rps K T F2 acc va ∧ acc.length ≤ n + (i + 1) ∧
      Po K T W F H σ ε (fin (lcLoop gg1 ft1 fe vs1 (ds1.drop (i + 1)) ε2 acc)) S, fun H' ⟨F2, ε2, z⟩ => ⟨ds1.length - (i + 1), by omega, rfl, hlt, F2, ε2, z⟩, fun x H3' hy => ?_⟩
    obtain ⟨F4, d, s3, s4, s5, fr, ed, rd⟩ := y1 x H3' hy
    have hdrop : ds1.drop i = d :: ds1.drop (i + 1) := by
      rw [List.drop_eq_getElem_cons hlt]
      congr 1
      rw [List.getElem?_eq_getElem hlt] at ed
      exact Option.some.inj ed
    rw [hdrop] at p2
    unfold lcLoop at p2
    cases e3 : gg1 d ε2 with
    | none => simp only [e3] at p2; exact absurd p2 hb
    | some ε4 =>
      simp only [e3] at p2
      have k4 := ok_grow k2 s3 s4 s5 fr
      have x4 := x2.grow s3 s5 fr
      have d4 := d2.grow s5 fr
      refine ⟨F4, ε2, d, ε4, k4, rd, e3, fun F5 H5 σ5 k5 x5 hj hl5 => ?_⟩
      have hw : L2.wipe σ5 vs1 = L2.wipe σ2 vs1 := wipe_eq (by rw [hl5, wipe_length]) fun j hjv => hj j fun z => hjv (htg j z)
      refine ⟨hw, F5, ε4, k5, ?_⟩
      have x6 := x4.trans x5
      have d5 := d4.ext x5
      cases e4 : ft1 ε4 with
      | bad => simp only [e4] at p2; exact absurd p2 hb
      | exn c ε5 => simp only [e4] at p2; exact absurd p2 hb
      | ok b ε5 =>
        intro F6 H6 k6 x7
        have x8 := x6.trans x7
        have d6 := d5.ext x7
        have r36 : Same F2 F6 := s3.trans (x5.fs.trans x7.fs)
        cases b with
        | false =>
          simp only [e4] at p2
          show _
          refine ⟨F6, wipeE ε5 vs1, acc, vacc, ?_, ?_, s2.trans r36, ?_, Rps.mono r36 _ _ ra, Nat.le_succ_of_le la, p2⟩
          · rw [← hw]; exact ok_wipe k6
          · rw [← hw]; exact x8.wipe
          · rw [← hw]; exact d6.wipe
        | true =>
          simp only [e4] at p2
          refine ⟨F6, ε5, k6, ?_⟩
          cases e5 : fe ε5 with
          | bad => simp only [e5] at p2; exact absurd p2 hb
          | exn c ε6 => simp only [e5] at p2; exact absurd p2 hb
          | ok r ε6 =>
            simp only [e5] at p2
            intro F7 H7 k7 x9 v hv hnv
            cases e6 : frz ε6 r with
            | none => simp only [e6] at p2; exact absurd p2 hb
            | some z =>
              obtain ⟨y, ε7⟩ := z
              simp only [e6] at p2
              have x10 := x8.trans x9
              have d7 := d6.ext x9
              obtain ⟨F8, k8, x11, r8, s8, f8, o8⟩ := frz_ok x10 k7 hv (fun a ha => x8.ht a (hnv a ha)) e6
              have n8 : ¬ OwnAt σ5 ε7 D := fun z => d7.n (o8 D z)
              have f9 : F8 D = none := by
                cases h : F8 D with
                | none => rfl
                | some u =>
                  rcases f8 D (by rw [h]; simp) with z | z | z
                  · exact absurd d7.f z
                  · have := hnv D z
                    rw [d6.h] at this; cases this
                  · exact absurd z d7.n
              have lacc : vacc.length = acc.length := ra.length
              have s28 : Same F2 F8 := r36.trans (x9.fs.trans s8)
              refine ⟨vacc, d7.h, line1M' (by omega), F8, wipeE ε7 vs1, acc ++ [y], vacc ++ [v], ?_, ?_, s2.trans s28, ?_, (Rps.mono s28 _ _ ra).append (Rps.one r8), ?_, p2⟩
              · rw [← hw]; exact ok_wipe (ok_upd k8 f9 n8)
              · rw [← hw]; exact (x11.upd hD0).wipe
              · rw [← hw]; exact ⟨upd_same, f9, fun z => n8 (own_wipe z)⟩
              · rw [List.length_append, List.length_singleton]; omega
  · left
    have ei : i = ds1.length := by omega
    subst ei
    rw [List.drop_length] at p2
    exact ⟨y2, hst F2 H2 ε2 acc vacc k2 x2 s2 d2 ra la p2⟩
def lcNext (k : List DL.D → En → O (List DL.D)) : O (List DL.D) → O (List DL.D)
  | .ok a ε => k a ε
  | _ => .bad
def lc2Loop (gg : DL.D → En → Option En) (ft : En → O Bool) (fi1 : En → O (List DL.D)) (gg1 : DL.D → En → Option En) (ft1 : En → O Bool) (fe : En → O R) (vs vs1 : List Nat) : List DL.D → En → List DL.D → O (List DL.D)
  | [], ε, acc => .ok acc ε
  | d :: ds, ε, acc => match gg d ε with
    | some ε1 => match ft ε1 with
      | .ok true ε2 => match fi1 ε2 with
        | .ok ds1 ε3 => if ds1.length ≤ 1000 then lcNext (fun acc' ε4 => lc2Loop gg ft fi1 gg1 ft1 fe vs vs1 ds (wipeE ε4 vs) acc') (lcLoop gg1 ft1 fe vs1 ds1 (wipeE ε3 vs1) acc) else .bad
        | _ => .bad
      | .ok false ε2 => lc2Loop gg ft fi1 gg1 ft1 fe vs vs1 ds (wipeE ε2 vs) acc
      | _ => .bad
    | none => .bad
def vLC2 (gg : DL.D → En → Option En) (ft : En → O Bool) (fi1 : En → O (List DL.D)) (gg1 : DL.D → En → Option En) (ft1 : En → O Bool) (fe : En → O R) (vs vs1 : List Nat) (ds : List DL.D) (ε : En) : O R :=
  if ds.length ≤ 1000 then (lc2Loop gg ft fi1 gg1 ft1 fe vs vs1 ds (wipeE ε vs) []).bind fun acc ε2 => .ok (.new (.lst acc)) ε2 else .bad
def dLC2 (fi : En → O (List DL.D)) (gg : DL.D → En → Option En) (ft : En → O Bool) (fi1 : En → O (List DL.D)) (gg1 : DL.D → En → Option En) (ft1 : En → O Bool) (fe : En → O R) (vs vs1 : List Nat) : En → O R := fun ε => (fi ε).bind fun ds ε1 => vLC2 gg ft fi1 gg1 ft1 fe vs vs1 ds ε1
theorem lc2_use {fi fi1 : En → O (List DL.D)} (htg : ∀ j ∈ tgs, j ∈ vs) (htg1 : ∀ j ∈ tgs1, j ∈ vs1) (hvs : ∀ j ∈ vs1, j ∈ vs) {σ : L2.St} {H : Hp} {Q : VK} (q : tD K T W (dLC2 fi gg ft fi1 gg1 ft1 fe vs vs1) σ H Q) :
    tLc2 (tDI K T W fi) (tDG K T tgs gg) (tDT K T W0 ft) (tDI K T W0 fi1) (tDG K T tgs1 gg1) (tDT K T W0 ft1) (tD K T W0 fe) vs vs1 σ H Q := by
  obtain ⟨F, ε, k, p⟩ := q
  refine ⟨F, ε, k, ?_⟩
  unfold dLC2 at p
  cases e : fi ε with
  | bad => rw [e] at p; exact p
  | exn c ε1 => rw [e] at p; exact p
  | ok ds ε1 =>
    rw [e] at p
    have p : Po K T W F H σ ε (vLC2 gg ft fi1 gg1 ft1 fe vs vs1 ds ε1) (SE K T H σ Q) := p
    intro F1 H1 k1 x1 J yj D hD
    unfold vLC2 at p
    by_cases hlen : ds.length ≤ 1000
    · rw [if_pos hlen] at p
      have hD0 : H D = none := x1.ht D hD
      refine ⟨fun i m H2 => m = ds.length - i ∧ i ≤ ds.length ∧ ∃ F2 ε2 acc va, Ok K T F2 H2 (L2.wipe σ vs) ε2 ∧ Ext F H σ ε F2 H2 (L2.wipe σ vs) ε2 ∧ Same F1 F2 ∧ Wiped vs ε2 ∧ DkL F2 H2 (L2.wipe σ vs) ε2 D va ∧ Rps K T F2 acc va ∧ acc.length ≤ i * 1000 ∧
        Po K T W F H σ ε ((lc2Loop gg ft fi1 gg1 ft1 fe vs vs1 (ds.drop i) ε2 acc).bind fun acc ε2 => (O.ok (R.new (DL.D.lst acc)) ε2 : O R)) (SE K T H σ Q), ⟨ds.length, by simp, Nat.zero_le _, F1, wipeE ε1 vs, [], [], ?_, ?_, Same.refl _, wiped_wipeE, ⟨upd_same, free_of k1 hD, ?_⟩, rps_nil.mpr rfl, Nat.zero_le _, p⟩, ?_⟩
      · exact ok_alloc (ok_wipe k1) hD
      · exact x1.wipe.alloc hD
      · exact not_own_fresh (ok_wipe k1) hD
      · rintro i m H2 ⟨rfl, hi, F2, ε2, acc, vacc, k2, x2, s2, w2, d2, ra, la, p2⟩
        obtain ⟨y1, y2⟩ := yj F2 H2 s2 k2.sub
        by_cases hlt : i < ds.length
        · right
          obtain ⟨go, y1⟩ := y1 i hlt
          refine ⟨go, fun H3 => ∃ F2 ε2 acc va, Ok K T F2 H3 (L2.wipe σ vs) ε2 ∧ Ext F H σ ε F2 H3 (L2.wipe σ vs) ε2 ∧ Same F1 F2 ∧ Wiped vs ε2 ∧ DkL F2 H3 (L2.wipe σ vs) ε2 D va ∧ Rps K T F2 acc va ∧ acc.length ≤ (i + 1) * 1000 ∧
            Po K T W F H σ ε ((lc2Loop gg ft fi1 gg1 ft1 fe vs vs1 (ds.drop (i + 1)) ε2 acc).bind fun acc ε2 => (O.ok (R.new (DL.D.lst acc)) ε2 : O R)) (SE K T H σ Q), fun H' ⟨F2, ε2, z⟩ => ⟨ds.length - (i + 1), by omega, rfl, hlt, F2, ε2, z⟩, fun x H3 hy => ?_⟩
          obtain ⟨F3, d, s3, s4, s5, fr, ed, rd⟩ := y1 x H3 hy
          have hdrop : ds.drop i = d :: ds.drop (i + 1) := by
            rw [List.drop_eq_getElem_cons hlt]
            congr 1
            rw [List.getElem?_eq_getElem hlt] at ed
            exact Option.some.inj ed
          rw [hdrop] at p2
          unfold lc2Loop at p2
          cases e3 : gg d ε2 with
          | none => simp only [e3, O.bind_bad] at p2; exact p2.elim
          | some ε3 =>
            simp only [e3] at p2
            have k3 := ok_grow k2 s3 s4 s5 fr
            have x3 := x2.grow s3 s5 fr
            have d3 := d2.grow s5 fr
            refine ⟨F3, ε2, d, ε3, k3, rd, e3, fun F4 H4 σ4 k4 x4 hj hl4 => ?_⟩
            have hw : L2.wipe σ4 vs = L2.wipe σ vs := by
              refine wipe_eq (by rw [hl4, wipe_length]) fun j hjv => hj j fun z => hjv (htg j z)
            refine ⟨hw, F4, ε3, k4, ?_⟩
            have x5 := x3.trans x4
            have d4 := d3.ext x4
            cases e4 : ft ε3 with
            | bad => simp only [e4, O.bind_bad] at p2; exact p2.elim
            | exn c ε4 => simp only [e4, O.bind_bad] at p2; exact p2.elim
            | ok b ε4 =>
              intro F5 H5 k5 x6
              have x7 := x5.trans x6
              have d5 := d4.ext x6
              have s15 : Same F1 F5 := s2.trans (s3.trans (x4.fs.trans x6.fs))
              have r35 : Same F2 F5 := s3.trans (x4.fs.trans x6.fs)
              cases b with
              | false =>
                simp only [e4] at p2
                show _
                refine ⟨F5, wipeE ε4 vs, acc, vacc, ?_, ?_, s15, wiped_wipeE, ?_, Rps.mono r35 _ _ ra, by omega, p2⟩
                · rw [← hw]; exact ok_wipe k5
                · rw [← hw]; exact x7.wipe
                · rw [← hw]; exact d5.wipe
              | true =>
                simp only [e4] at p2
                refine ⟨F5, ε4, k5, ?_⟩
                cases e5 : fi1 ε4 with
                | bad => simp only [e5, O.bind_bad] at p2; exact p2.elim
                | exn c ε5 => simp only [e5, O.bind_bad] at p2; exact p2.elim
                | ok ds1 ε5 =>
                  simp only [e5] at p2
                  intro F6 H6 k6 x8 J1 yj1
                  by_cases hl1 : ds1.length ≤ 1000
                  · rw [if_pos hl1] at p2
                    refine lc_in (fin := fun o => (lcNext (fun acc' ε4 => lc2Loop gg ft fi1 gg1 ft1 fe vs vs1 (ds.drop (i + 1)) (wipeE ε4 vs) acc') o).bind fun acc ε2 => (O.ok (R.new (DL.D.lst acc)) ε2 : O R)) (n := i * 1000)
                      (fun z => z.elim) htg1 k6 (x7.trans x8) (d5.ext x8) hD0 (Rps.mono (r35.trans x8.fs) _ _ ra) la (by omega) yj1 p2 fun F' H' ε' acc' va' k' x' s' dk' ra' la' p' => ?_
                    have hw2 : L2.wipe (L2.wipe σ4 vs1) vs = L2.wipe σ vs := by
                      rw [← hw]
                      exact wipe_eq (wipe_length σ4 vs1) fun j hj => by rw [wipe_out' fun z => hj (hvs j z), wipe_out' hj]
                    refine ⟨F', wipeE ε' vs, acc', va', ?_, ?_, s15.trans (x8.fs.trans s'), wiped_wipeE, ?_, ra', by omega, p'⟩
                    · rw [← hw2]; exact ok_wipe k'
                    · rw [← hw2]; exact x'.wipe
                    · rw [← hw2]; exact dk'.wipe
                  · rw [if_neg hl1] at p2; exact p2.elim
        · left
          have ei : i = ds.length := by omega
          subst ei
          rw [List.drop_length] at p2
          refine ⟨y2, ?_⟩
          have p2 : Po K T W F H σ ε (.ok (.new (.lst acc)) ε2) (SE K T H σ Q) := p2
          refine p2 F2 H2 (ok_unwipe k2 w2) (x2.unwipe w2) (.ref D) ⟨D, .lst vacc, rfl, d2.f, d2.h, ra, fun z => d2.n (own_unwipe w2 z)⟩ fun a ha => ?_
          have ea : a = D := by simpa [newA] using ha
          subst ea; exact hD0
    · rw [if_neg hlen] at p; exact p.elim
end
section
variable {X : Cx} {T : Tab} {W : WX} {elt tg iter tg1 iter1 : Expr} {ifs ifs1 : List Expr} {fe : En → O R} {ft ft1 : En → O Bool} {pos : Pos} {P tgs tgs1 : List Nat} {gg gg1 : D → En → Option En}
theorem de_lc2 {own : List (Str × Nat)} (vs1 : List Nat) {scope : Scope} {fi fi1 : En → O (List D)} (hc : X.calm = true) (hN : X.N.Nodup) (hi : DI X T W tg iter fi) (ok : BlkOk X.N X.env.scope scope own)
    (hg : ∀ (s : Shared) (H : Hp) (C : Addr) (cl : List (Str × Addr)) (fp : List Addr), DG (X.blk s H scope (compEnvC scope cl C X.env) fp) T tgs tg gg) (ht : ∀ (s : Shared) (H : Hp) (C : Addr) (cl : List (Str × Addr)) (fp : List Addr), DTs (X.blk s H scope (compEnvC scope cl C X.env) fp) T W0 ifs ft)
    (hi1 : ∀ (s : Shared) (H : Hp) (C : Addr) (cl : List (Str × Addr)) (fp : List Addr), DI (X.blk s H scope (compEnvC scope cl C X.env) fp) T W0 tg1 iter1 fi1)
    (hg1 : ∀ (s : Shared) (H : Hp) (C : Addr) (cl : List (Str × Addr)) (fp : List Addr), DG (X.blk s H scope (compEnvC scope cl C X.env) fp) T tgs1 tg1 gg1) (ht1 : ∀ (s : Shared) (H : Hp) (C : Addr) (cl : List (Str × Addr)) (fp : List Addr), DTs (X.blk s H scope (compEnvC scope cl C X.env) fp) T W0 ifs1 ft1)
    (he : ∀ (s : Shared) (H : Hp) (C : Addr) (cl : List (Str × Addr)) (fp : List Addr), DE (X.blk s H scope (compEnvC scope cl C X.env) fp) T W0 elt fe) (htg : ∀ j ∈ tgs, j ∈ own.map (·.2) := by decide) (htg1 : ∀ j ∈ tgs1, j ∈ vs1 := by decide) (hvs : ∀ j ∈ vs1, j ∈ own.map (·.2) := by decide)
    (hs : ∀ x, foldedSetIterable iter X.env x = pure x := by intro _; rfl) (hs1 : ∀ env x, foldedSetIterable iter1 env x = pure x := by intro _ _; rfl) :
    DE X T W (.ListComp elt [⟨tg, iter, ifs, 0⟩, ⟨tg1, iter1, ifs1, 0⟩] scope pos) (dLC2 fi gg ft fi1 gg1 ft1 fe (own.map (·.2)) vs1) :=
  PE.imp (pe_lc2 hc hN hi ok hvs hg ht hi1 hg1 ht1 he hs hs1) fun σ H Q q => lc2_use htg htg1 hvs q
end
end DL

/-! DL34: for a, b in sorted(a dict with pairs as keys) -/
namespace DL
open PySem PySem.Spec PyProof.Rows L2
def fK (q : Int × Int) : List Key := [Sum.inl q.1, Sum.inl q.2]
def uK : List Key → Int × Int
  | [.inl i, .inl j] => (i, j)
  | _ => (0, 0)
theorem uK_fK (q : Int × Int) : uK (fK q) = q := rfl
def cd2 (q : Int × Int) : Int := q.1 * 1000 + q.2
def dc2 (c : Int) : Int × Int := (c / 1000, c % 1000)
def bd2 (q : Int × Int) : Prop := (0 ≤ q.1 ∧ q.1 < 1000) ∧ 0 ≤ q.2 ∧ q.2 < 1000
theorem dc_cd {q : Int × Int} (h : bd2 q) : dc2 (cd2 q) = q := by
  obtain ⟨a, b⟩ := q
  obtain ⟨⟨h1, h2⟩, h3, h4⟩ := h
  simp only at h1 h2 h3 h4
  unfold dc2 cd2
  simp only [Prod.mk.injEq]
  constructor <;> omega
def srt2 (l : List (Int × Int)) : List (Int × Int) := (srt (l.map cd2)).map dc2
theorem srt2_of {l m : List (Int × Int)} (p : m.Perm l) (s : m.Pairwise fun a b => cd2 a ≤ cd2 b) (b : ∀ q ∈ m, bd2 q) : m = srt2 l := by
  unfold srt2
  rw [← srt_of (p.map cd2) (List.pairwise_map.mpr s), List.map_map]
  have : ∀ q ∈ m, (dc2 ∘ cd2) q = q := fun q hq => dc_cd (b q hq)
  rw [List.map_congr_left this, List.map_id']
def pr2 (ns : List Int) : Int × Int := (ns.headD 0, ns.tail.headD 0)
def adOf : Value → Addr
  | .ref b => b
  | _ => 0
def rSrtT : List V → Hp → VK → Prop := fun xs H Q => ∃ (a : Addr) (kvs : List (List Key × V)) (iss : List (Int × Int)), xs = [.ref a] ∧ Rd H a (.dT kvs) ∧ kvs.map (·.1) = iss.map fK ∧ iss.length < 64 ∧ (∀ q ∈ iss, bd2 q) ∧
  ∀ (L : List ((Int × Int) × Addr)) (p : Addr) (o : Obj), L.map (·.1) = srt2 iss → (∀ x ∈ L, H x.2 = some (.tup [.int x.1.1, .int x.1.2])) → H p = none → Q (.ref p) (upd H p (.frz o (.lst (L.map fun x => .ref x.2))))
section
variable {X : Cx}
theorem cr_srtT (hc : X.calm = true) : CallR X (.builtin "sorted") rSrtT := by
  intro pins s σ H xs us Q I r h
  obtain ⟨d, kvs, iss, rfl, hd, hks, h64, hbd, q⟩ := h
  obtain ⟨u, rfl, rx⟩ := r.one
  cases rx
  obtain ⟨z, hs, ks, pr, o, es, ep, ho, hx, hdt, he, hn⟩ := (show ObjOk X.prog X.w H s.heap d (.dT kvs) from hd.ok I.hok)
  have l1 : es.size = ks.length := size_of_entries he
  have l2 : kvs.length = ks.length := Paired.length pr
  have l3 : kvs.length = iss.length := by simpa using congrArg List.length hks
  have hk1 : ks.map (·.1) = iss.map fK := by
    rw [← hks]
    clear hks l1 l2 l3 he hn hdt z hd
    induction pr with
    | nil => rfl
    | cons h t ih => rw [List.map_cons, List.map_cons, ih, h.1]
  have hk2 : ∀ x ∈ ks, H x.2.1 = some (.tup (x.1.map kV)) := by
    clear hks l1 l2 l3 he hn hdt z hd hk1
    induction pr with
    | nil => intro x hx; exact nomatch hx
    | cons h t ih =>
      intro x hx
      rcases List.mem_cons.mp hx with e | hx
      · subst e; rw [← h.1]; exact h.2.1
      · exact ih x hx
  have hk3 : ∀ x ∈ ks, ∃ q ∈ iss, x.1 = fK q := fun x hx => by
    have : x.1 ∈ iss.map fK := by rw [← hk1]; exact List.mem_map_of_mem hx
    obtain ⟨q, hq, e⟩ := List.mem_map.mp this
    exact ⟨q, hq, e.symm⟩
  refine Calls.call_function_entry PyProof.Rows.kind_sorted PyProof.Rows.plain_sorted PyProof.Rows.entry_sorted (PyProof.Rows.args_sorted1 _) ?_
  unfold Builtin.«sorted»
  refine wpAny_bind (m := checkCount "sorted" 1 1 _) (wpAny_pure ?_)
  refine wpAny_bind (PySem.W.kdu_collect (A := X.A.in1) (kdl_raw hs hx hdt) (I.ok.hd hc) ho (by omega) fun h' tk acc hk it => ?_)
  have ea : acc.toList = ks.map fun x => Value.ref x.2.1 := by
    have hl : acc.toList.length = ks.length := by rw [Array.length_toList, it.1]; exact l1
    apply List.ext_getElem?
    intro j
    rw [List.getElem?_map]
    cases hj : acc.toList[j]? with
    | none =>
      have h1 := List.getElem?_eq_none_iff.mp hj
      rw [List.getElem?_eq_none (by omega)]
      all_goals rfl
    | some v =>
      obtain ⟨en, hen, hv⟩ := it.2 j v (by rw [← Array.getElem?_toList]; exact hj)
      have qe := entry_at he j
      rw [hen] at qe
      cases hb : ks[j]? with
      | none =>
        rw [hb] at qe
        exact nomatch (show some en = none from qe)
      | some b =>
        rw [hb] at qe
        have e2 : en = entryOfKey (tupleKind (mixKind X.prog X.w)) b := Option.some.inj qe
        rw [hv, e2]
        all_goals rfl
  have hal : acc.toList.length = iss.length := by rw [ea, List.length_map]; omega
  have I1 : Inv X pins σ H { s with heap := h', toks := tk } := I.kept hk
  refine wpAny_bind (wpAny_newList ?_ (by rw [hal, sizeLine_eq]; omega))
  have hoL : (h'.push (seqObj "list" acc.toList.toArray 0)).get? h'.objs.size = some (seqObj "list" acc.toList.toArray 0) := Heap.get?_push_size _ rfl
  generalize hHp : h'.push (seqObj "list" acc.toList.toArray 0) = hp at hoL
  have hkeep : ∀ b u, s.heap.get? b = some u → hp.get? b = some u := fun b u e => by rw [← hHp]; exact Heap.get?_push_of_some _ (hk b u e)
  have ht : ∀ x ∈ ks, TS.TupInts hp (.ref x.2.1) [(uK x.1).1, (uK x.1).2] := fun x hx => by
    obtain ⟨q, hq, e⟩ := hk3 x hx
    have h1 := hk2 x hx
    rw [e] at h1 ⊢
    obtain ⟨_, its, rv, ⟨ob, g1, g2, n, g3⟩⟩ := (show ObjOk X.prog X.w H s.heap x.2.1 (.tup ((fK q).map kV)) from I.hok _ _ h1)
    refine ⟨x.2.1, its.toArray, rfl, ⟨ob, hkeep _ _ g1, g2, n, g3⟩, ?_⟩
    have this : Vals ([q.1, q.2].map V.int) its := rv
    show IntsAre its.toArray.toList [q.1, q.2]
    simpa using this.ints
  have hti : ∀ x ∈ ks, pr2 (TS.intsOf hp (.ref x.2.1)) = uK x.1 := fun x hx => by rw [(ht x hx).ints]; rfl
  have hbx : ∀ x ∈ ks, bd2 (uK x.1) := fun x hx => by
    obtain ⟨q, hq, e⟩ := hk3 x hx
    rw [e, uK_fK]; exact hbd q hq
  have hcd : ∀ x ∈ ks, TS.code 1000 (TS.intsOf hp (.ref x.2.1)) = cd2 (uK x.1) := fun x hx => by
    rw [(ht x hx).ints]
    unfold TS.code TS.code TS.code cd2
    simp
  show wpAny _ _ _ _ _ { s with heap := hp, toks := tk }
  have hsz : h'.objs.size < hp.objs.size := Heap.lt_size hoL
  refine wpAny_bind (wpAny_holding (wpAny_call_entry PyProof.Rows.slot_list_sort ⟨_, hoL, rfl⟩ PyProof.Rows.entry_list_sort
    (TS.sort_tups (s := { s with heap := hp, toks := tk }) (d := 2) (B := 1000) hoL (by rw [hal]; exact h64) (by decide) (fun v hv => ?_) (fun v => TS.code 1000 (TS.intsOf hp v)) (fun v hv ns t => by rw [t.ints]) fun out g1 g2 => ⟨_, rfl, ?_⟩) (PyProof.Rows.args_list_sort _)))
  · rw [ea] at hv
    obtain ⟨x, hx, rfl⟩ := List.mem_map.mp hv
    refine ⟨_, ht x hx, rfl, ?_⟩
    obtain ⟨b1, b2⟩ := hbx x hx
    intro m hm
    rcases List.mem_cons.mp hm with e | hm
    · rw [e]; exact b1
    · rcases List.mem_cons.mp hm with e | hm
      · rw [e]; exact b2
      · exact nomatch hm
  · obtain ⟨e', he'⟩ := PyProof.Rows.sortedHeap_at (vs := acc.toList) (out := out) hoL
    have hmem : ∀ v ∈ out.toList, ∃ x ∈ ks, v = .ref x.2.1 := fun v hv => by
      have : v ∈ acc.toList := g1.mem_iff.mp hv
      rw [ea] at this
      obtain ⟨x, hx, e⟩ := List.mem_map.mp this
      exact ⟨x, hx, e.symm⟩
    let gL : Value → (Int × Int) × Addr := fun v => (pr2 (TS.intsOf hp v), adOf v)
    have hL1 : (out.toList.map gL).map (·.1) = srt2 iss := by
      refine srt2_of ?_ ?_ ?_
      · rw [List.map_map]
        refine (g1.map _).trans (List.Perm.of_eq ?_)
        rw [ea, List.map_map]
        have e1 : ks.map ((Prod.fst ∘ gL) ∘ fun x => Value.ref x.2.1) = ks.map (uK ∘ fun x => x.1) := List.map_congr_left fun x hx => hti x hx
        rw [e1, ← List.map_map, hk1, List.map_map]
        have e2 : iss.map (uK ∘ fK) = iss.map id := List.map_congr_left fun q _ => uK_fK q
        rw [e2, List.map_id]
      · rw [List.map_map, List.pairwise_map]
        refine List.Pairwise.imp_of_mem (fun {u v} hu hv hle => ?_) g2
        obtain ⟨x, hx, rfl⟩ := hmem u hu
        obtain ⟨y, hy, rfl⟩ := hmem v hv
        have hle : TS.code 1000 (TS.intsOf hp (.ref x.2.1)) ≤ TS.code 1000 (TS.intsOf hp (.ref y.2.1)) := hle
        rw [hcd x hx, hcd y hy] at hle
        show cd2 (pr2 (TS.intsOf hp (.ref x.2.1))) ≤ cd2 (pr2 (TS.intsOf hp (.ref y.2.1)))
        rw [hti x hx, hti y hy]
        exact hle
      · intro q hq
        rw [List.map_map] at hq
        obtain ⟨v, hv, rfl⟩ := List.mem_map.mp hq
        obtain ⟨x, hx, rfl⟩ := hmem v hv
        show bd2 (pr2 (TS.intsOf hp (.ref x.2.1)))
        rw [hti x hx]; exact hbx x hx
    have hL2 : ∀ x ∈ out.toList.map gL, H x.2 = some (.tup [.int x.1.1, .int x.1.2]) := fun y hy => by
      obtain ⟨v, hv, rfl⟩ := List.mem_map.mp hy
      obtain ⟨x, hx, rfl⟩ := hmem v hv
      show H x.2.1 = some (.tup [.int (pr2 (TS.intsOf hp (.ref x.2.1))).1, .int (pr2 (TS.intsOf hp (.ref x.2.1))).2])
      rw [hti x hx]
      obtain ⟨q, hq, e⟩ := hk3 x hx
      have := hk2 x hx
      rw [e] at this ⊢
      exact this
    have hL3 : Vals ((out.toList.map gL).map fun x => V.ref x.2) out.toList := by
      rw [List.map_map]
      have e1 : out.toList = (out.toList.map adOf).map Value.ref := by
        rw [List.map_map]
        have : ∀ v ∈ out.toList, (Value.ref ∘ adOf) v = id v := fun v hv => by
          obtain ⟨x, hx, rfl⟩ := hmem v hv
          rfl
        rw [List.map_congr_left this, List.map_id]
      have e2 : out.toList.map ((fun x => V.ref x.2) ∘ gL) = (out.toList.map adOf).map V.ref := by rw [List.map_map]; rfl
      rw [e2]
      have := vals_refs (out.toList.map adOf)
      rw [← e1] at this
      exact this
    have hlen : ((out.toList.map gL).map fun x => V.ref x.2).length ≤ sizeLine := by
      rw [List.length_map, List.length_map, g1.length_eq, hal, sizeLine_eq]; omega
    refine wpAny_pure ⟨_, rfl, .ref h'.objs.size, _, I1.laid (t' := tk) (o := .frz (seqObj "list" out e') (.lst ((out.toList.map gL).map fun x => V.ref x.2))) (fun b u e => ?_) (Nat.le_refl _) ?_, rfl, q _ h'.objs.size (seqObj "list" out e') hL1 hL2 (I1.hok.fresh (Nat.le_refl _))⟩
    · have hb : b < h'.objs.size := Heap.lt_size e
      rw [PyProof.Rows.sortedHeap_old (Nat.ne_of_lt hb) (Nat.lt_trans hb hsz)]
      rw [← hHp]; exact Heap.get?_push_of_some _ e
    · exact ⟨he', hlen, out.toList, e', hL3, by rw [Array.toArray_toList]; exact he'⟩
end
def toPP : List (List Key) → Option (List (Int × Int))
  | [] => some []
  | [.inl i, .inl j] :: r => (toPP r).map ((i, j) :: ·)
  | _ :: _ => none
theorem toPP_eq : ∀ {ks : List (List Key)} {l : List (Int × Int)}, toPP ks = some l → ks = l.map fK
  | [], l, e => by cases e; rfl
  | k :: r, l, e => by
    unfold toPP at e
    split at e
    · rename_i h; cases h
    · rename_i i j r' h
      cases h
      cases e1 : toPP r with
      | none => rw [e1] at e; cases e
      | some m => rw [e1] at e; cases e; rw [toPP_eq e1]; rfl
    · cases e
def bdB (l : List (Int × Int)) : Bool := l.all fun q => decide (0 ≤ q.1) && decide (q.1 < 1000) && decide (0 ≤ q.2) && decide (q.2 < 1000)
theorem bdB_of {l : List (Int × Int)} (h : bdB l = true) : ∀ q ∈ l, bd2 q := fun q hq => by
  have := List.all_eq_true.mp h q hq
  simp only [Bool.and_eq_true, decide_eq_true_eq] at this
  exact ⟨⟨this.1.1.1, this.1.1.2⟩, this.1.2, this.2⟩
def pD (q : Int × Int) : List D := [.int q.1, .int q.2]
def pLoop (gs : List D → En → Option En) (b : En → O Fl) : List (Int × Int) → En → O Fl
  | [], ε => .ok .nx ε
  | q :: r, ε => match gs (pD q) ε with
    | some ε1 => (b ε1).bind (vTurn (pLoop gs b r))
    | none => .bad
def vForST (gs : List D → En → Option En) (b : En → O Fl) (ε : En) (rs : List R) : O Fl :=
  match ress ε rs with
  | some [.dT ks _] => match toPP ks with
    | some l => if (decide (l.length < 64) && bdB l) = true then pLoop gs b (srt2 l) ε else .bad
    | none => .bad
  | _ => .bad
def dForST (fs : En → O (List R)) (gs : List D → En → Option En) (b : En → O Fl) : En → O Fl := fun ε => (fs ε).bind fun rs ε1 => vForST gs b ε1 rs
section
variable {X : Cx} {T : Tab} {W : WX} {e : Expr} {es : List Expr} {g : En → O Fl} {fs : En → O (List R)} {pos p : Pos} {P tgs : List Nat}
theorem key_not_own {K : PySem.W.Frag} {F H : Hp} {σ : L2.St} {ε : En} (k : Ok K T F H σ ε) {b : Addr} {vs : List V} (h : H b = some (.tup vs)) : ¬ OwnAt σ ε b := fun ⟨i, d, e1, e2⟩ => by
  obtain ⟨a, o, h1, h2, h3, h4⟩ := k.own i d e1
  rw [e2] at h1
  cases h1
  rw [h] at h3
  cases h3
  cases d <;> exact h4.elim
theorem ds_forST {kk : Nat} {tpos fpos : Pos} {body : List Stmt} {gs : List D → En → Option En} (hp : PassesOwn (model X.prog X.w) X.A X.env X.xe) (hc : X.calm = true) (gl : Gl X "sorted") (hm : X.mg "sorted" = none) (ha : DA X T W [e] fs) (hg : DGs X T tgs es gs) (hb : DSs X T W P body g) (hn : (assignEach es X.env).length = 2 := by rfl) (hst : (assignEach es X.env).findIdx? (·.1) = none := by rfl) (hP : ∀ j ∈ P, j ∉ tgs := by decide)
    (he : starEach [e] X.env = (false, eval e X.env) :: starEach [] X.env := by rfl) (hpl : (backTo p (starEach [] X.env)).any (·.1) = false := by rfl) (hs : ∀ x, foldedSetIterable (.Call (.Name "sorted" pos) [e] [] p) X.env x = pure x := by intro _; rfl) :
    DS X T W P (.For (.Tuple es kk tpos) (.Call (.Name "sorted" pos) [e] [] p) body [] fpos) (dForST fs gs g) := by
  refine PS.imp (ps_for hp hc (pi_list (pe_callB (cr_srtT hc) gl hm (by decide +kernel) ha (by decide) (by decide) he hpl)) (pg_tup hc hg hn hst) hb hs) fun D σ H q => ?_
  obtain ⟨F, ε, k, q⟩ := q
  show tDA X.K T W fs σ H _
  refine tDA_useS (g := fun rs ε1 => vForST gs g ε1 rs) (S := SF X.K T H D) k Ext.refl (fun _ _ => rfl) q fun vs F1 H1 rs ε1 k1 _ x1 q1 n1 nd p1 => ?_
  unfold vForST at p1
  split at p1
  · rename_i ks ds e1
    split at p1
    · rename_i l e2
      split at p1
      · rename_i hl
        rw [Bool.and_eq_true, decide_eq_true_eq] at hl
        obtain ⟨v, rfl, b, us, rfl, hd, hlen, hr⟩ := rpis1 (ress_rpis k1 q1 e1)
        have hl2 : ks.length = us.length := by rw [hr.length]; exact hlen
        refine ⟨b, _, l, rfl, hd, by rw [← toPP_eq e2]; exact List.map_fst_zip (by omega), hl.1, bdB_of hl.2, fun L a o hL hH hna => ?_⟩
        have k2 : Ok X.K T (upd F1 a (.frz o (.lst (L.map fun x => .ref x.2)))) (upd H1 a (.frz o (.lst (L.map fun x => .ref x.2)))) σ ε1 := ok_allocF k1 hna
        have x2 : Ext F H σ ε (upd F1 a (.frz o (.lst (L.map fun x => .ref x.2)))) (upd H1 a (.frz o (.lst (L.map fun x => .ref x.2)))) σ ε1 := x1.allocF k1 hna
        have hf2 : (upd F1 a (.frz o (.lst (L.map fun x => V.ref x.2)))) a = some (.frz o (.lst (L.map fun x => .ref x.2))) := upd_same
        have hH2 : ∀ x ∈ L, (upd H1 a (.frz o (.lst (L.map fun x => V.ref x.2)))) x.2 = some (.tup [.int x.1.1, .int x.1.2]) := fun x hx => by
          have := hH x hx
          rw [upd_ne (ne_of_none this hna)]; exact this
        generalize upd F1 a (.frz o (.lst (L.map fun x => V.ref x.2))) = F2 at k2 x2 hf2
        generalize upd H1 a (.frz o (.lst (L.map fun x => V.ref x.2))) = H2 at k2 x2 hH2
        have sq : ∀ {F3 H3 : Hp}, Same F2 F3 → Same F3 H3 → SqL X.K H3 a (L.map fun x => .ref x.2) := fun s1 s2 => .inl (.inr ⟨o, s2 _ _ (s1 _ _ hf2)⟩)
        rw [← hL] at p1
        refine ⟨a, rfl, ⟨_, sq (Same.refl _) k2.sub⟩, ?_⟩
        refine ⟨fun i m σ2 H3 => m = L.length - i ∧ i ≤ L.length ∧ ∃ F3 ε2, Ok X.K T F3 H3 σ2 ε2 ∧ Ext F2 H2 σ ε1 F3 H3 σ2 ε2 ∧ (∀ j ∈ P, σ2[j]? = σ[j]?) ∧ Ps X.K T W P F H σ ε (pLoop gs g ((L.map (·.1)).drop i) ε2) (SF X.K T H D), ⟨L.length, by simp, Nat.zero_le _, F2, ε1, k2, Ext.refl, fun _ _ => rfl, by rw [List.drop_zero]; exact p1⟩, ?_⟩
        rintro i m σ2 H3 ⟨rfl, hi', F3, ε2, k3, x3, hP2, p2⟩
        have sq3 := sq x3.fs k3.sub
        by_cases hlt : i < L.length
        · right
          have hgi : (L.map fun x => V.ref x.2)[i]? = some (.ref L[i].2) := by rw [List.getElem?_map, List.getElem?_eq_getElem hlt]; rfl
          refine ⟨⟨_, _, sq3, hgi⟩, fun σ3 H4 => ∃ F4 ε3, Ok X.K T F4 H4 σ3 ε3 ∧ Ext F2 H2 σ ε1 F4 H4 σ3 ε3 ∧ (∀ j ∈ P, σ3[j]? = σ[j]?) ∧ Ps X.K T W P F H σ ε (pLoop gs g ((L.map (·.1)).drop (i + 1)) ε3) (SF X.K T H D), fun σ' H' ⟨F3, ε3, z⟩ => ⟨L.length - (i + 1), by omega, rfl, hlt, F3, ε3, z⟩, fun x H4 hy => ?_⟩
          obtain ⟨rfl, hy⟩ := hy
          have hy := hy _ sq3
          rw [hgi] at hy
          cases hy
          have hmem : L[i] ∈ L := List.getElem_mem hlt
          have ht : H4 L[i].2 = some (.tup [.int L[i].1.1, .int L[i].1.2]) := x3.hk _ _ (hH2 _ hmem) (key_not_own k2 (hH2 _ hmem))
          have hdrop : (L.map (·.1)).drop i = L[i].1 :: (L.map (·.1)).drop (i + 1) := by
            rw [List.drop_eq_getElem_cons (by rw [List.length_map]; exact hlt), List.getElem_map]
          rw [hdrop] at p2
          unfold pLoop at p2
          cases e3 : gs (pD L[i].1) ε2 with
          | none => rw [e3] at p2; exact p2.elim
          | some ε3 =>
            rw [e3] at p2
            have p2 : Ps X.K T W P F H σ ε ((g ε3).bind (vTurn (pLoop gs g ((L.map (·.1)).drop (i + 1))))) (SF X.K T H D) := p2
            refine ⟨_, _, rfl, .inl (.inl ht), rfl, F3, ε2, pD L[i].1, ε3, k3, rps_cons.mpr ⟨_, _, rfl, rp_int.mpr rfl, rps_cons.mpr ⟨_, _, rfl, rp_int.mpr rfl, rps_nil.mpr rfl⟩⟩, e3, fun F4 H5 σ4 k4 x4 hj _ => ?_⟩
            have x5 := x3.trans x4
            have hP4 : ∀ j ∈ P, σ4[j]? = σ[j]? := fun j hj' => (hj j (hP j hj')).trans (hP2 j hj')
            refine ⟨F4, ε3, k4, ?_⟩
            cases e4 : g ε3 with
            | bad => rw [e4] at p2; exact p2
            | exn c ε4 =>
              rw [e4] at p2
              exact fun F5 H5 σ5 k5 x6 hP5 => p2 F5 H5 σ5 k5 (x2.trans (x5.trans x6)) fun j hj => (hP5 j hj).trans (hP4 j hj)
            | ok fl ε4 =>
              rw [e4] at p2
              intro F5 H6 σ5 k5 x6 hP5
              have hP6 : ∀ j ∈ P, σ5[j]? = σ[j]? := fun j hj => (hP5 j hj).trans (hP4 j hj)
              cases fl with
              | nx => exact ⟨F5, ε4, k5, x5.trans x6, hP6, p2⟩
              | ct => exact ⟨F5, ε4, k5, x5.trans x6, hP6, p2⟩
              | bk => exact p2 F5 H6 σ5 k5 (x2.trans (x5.trans x6)) hP6
              | rt r => exact fun v hv hn => p2 F5 H6 σ5 k5 (x2.trans (x5.trans x6)) hP6 v hv fun a ha => (x2.trans x5).ht a (hn a ha)
        · left
          have ei : i = L.length := by omega
          subst ei
          rw [List.drop_of_length_le (by rw [List.length_map]; exact Nat.le_refl _)] at p2
          exact ⟨⟨_, sq3, by rw [List.length_map]; exact Nat.le_refl _⟩, p2 F3 H3 σ2 k3 (x2.trans x3) hP2⟩
      · exact p1.elim
    · exact p1.elim
  · exact p1.elim
end
end DL

/-! DL35: a short tuple, some times -/
namespace DL
open PySem PySem.Spec PyProof.Rows L2
def rRepN (K : PySem.W.Frag) : R2 := fun x y H Q => ∃ l k xs, x = .ref l ∧ y = .int k ∧ SqT K H l xs ∧ 1 ≤ xs.length ∧ xs.length ≤ 64 ∧ 2 ≤ k ∧ k ≤ 64 ∧ NewT Q H (List.replicate k.toNat xs).flatten
theorem op_repN {X : Cx} : OpR X (binaryOp .Mult) (rRepN X.K) := by
  intro pins s σ H x y v u Q I rx ry h
  obtain ⟨l, k, xs, rfl, rfl, hT, n1, n2, k1, k2, q⟩ := h
  cases rx
  obtain ⟨t, rfl⟩ := ry
  obtain ⟨its, r, ⟨⟨cls, dd, data, sl⟩, ho, hc, n, hd⟩, hs⟩ := I.tuple hT
  simp only at hc hd
  subst hc hd
  have hle : its.toArray.size = xs.length := by rw [List.size_toArray]; exact r.length.symm
  have he : its.toArray.isEmpty = false := by
    cases its with
    | nil => rw [List.size_toArray, List.length_nil] at hle; omega
    | cons a b => rfl
  have kp : k.toNat * xs.length ≤ 64 * 64 := Nat.mul_le_mul (by omega) n2
  have zp : ((its.toArray.size : Nat) : Int) * k ≤ 64 * 64 := by
    rw [hle]
    have := Int.ofNat_le.mpr kp
    rw [Int.natCast_mul, Int.toNat_of_nonneg (by omega)] at this
    rw [Int.mul_comm]
    exact this
  have fl : (List.replicate k.toNat its).flatten.length ≤ sizeLine := by
    rw [PyProof.Rows.lm_len_rep_flat, ← r.length, sizeLine_eq]; omega
  have big : (2 : Int) ^ 63 = 9223372036854775808 := by decide
  refine wpAny_binaryOp_repeat_ref (T := "tuple") (U := "int") (by decide) ⟨_, ho, rfl⟩ (fun s' => typeIs_int s' k t) noFill_tuple_mul F.fills_int_mul F.slot_int_rmul repeat_tuple F.slot_int_index.lookup
    (call_meets F.slot_int_rmul (typeIs_int s k t) F.entry_int_rmul (F.args_int_rmul_2 _ _) (int_rmul_tuple k t l its.toArray n dd sl)
      ⟨ho, rfl, ⟨_, ho, rfl⟩, call_meets F.slot_tuple_mul ⟨_, ho, rfl⟩ F.entry_tuple_mul (F.args_tuple_mul_2 _ _) (tuple_mulW l its.toArray n dd sl k t ?_ ?_ ?_ ?_ ?_ (by rw [size_rep, List.size_toArray]; exact fl)) ⟨ho, ?_⟩⟩)
  · rw [big]; simp only [Bool.or_eq_false_iff, decide_eq_false_iff_not]; omega
  · rw [he, Bool.false_or]; exact beq_eq_false_iff_ne.mpr (by omega)
  · rw [he, Bool.or_false]; exact decide_eq_false (by omega)
  · rw [big]; omega
  · unfold Builtin.Tuple.tupleTooMany
    rw [sizeLine_eq]
    exact decide_eq_false (by omega)
  · rw [size_rep]
    exact ⟨.ref s.heap.objs.size, _, I.laid (t' := s.toks) (fun b ob q => Heap.get?_push_of_some _ q) (Nat.le_refl _) (tup_new (Heap.get?_push_size _ rfl) rfl (r.rep k.toNat) (by rw [PyProof.Rows.lm_len_rep_flat, sizeLine_eq]; omega)), rfl, q _ _ (I.hok.fresh (Nat.le_refl _)) rfl⟩
def gRepT : D → D → Option An
  | .tup ds, .int k => if (decide (1 ≤ ds.length) && decide (ds.length ≤ 64) && decide (2 ≤ k) && decide (k ≤ 64)) = true then some (.nt (rep k ds)) else none
  | _, _ => none
theorem opA_repT {K : PySem.W.Frag} {T : Tab} : OpA K T gRepT (rRepN K) := fun d1 d2 a x y F H Q e r1 r2 s q => by
  unfold gRepT at e
  split at e
  · rename_i ds k
    split at e
    · rename_i h
      cases e
      simp only [Bool.and_eq_true, decide_eq_true_eq] at h
      obtain ⟨l, vs, rfl, hq, hr⟩ := r1
      have hl : vs.length = ds.length := hr.length
      exact ⟨l, k, vs, rfl, r2, (hq.mono s).t, by omega, by omega, h.1.2, h.2, fun p o hp ho => q.1 p o _ hp ho (rps_rep hr _)⟩
    · cases e
  · cases e
section
variable {X : Cx} {T : Tab} {W : WX} {a b : Expr} {fa fb : En → O R} {pos : Pos}
theorem de_mulT (ha : DE X T W a fa) (hb : DE X T W b fb) : DE X T W (.BinOp a .Mult b pos) (dOpA gRepT fa fb) := de_opA op_repN opA_repT ha hb
end
end DL

/-! DL36: a, b = x, y where a name is a cell -/
namespace DL
open PySem PySem.Spec PyProof.Rows L2
section
variable {X : Cx} {T : Tab} {W : WX} {a b : Expr} {fs : En → O (List R)} {pos : Pos} {P : List Nat}
theorem ds_parC {i j : Nat} {x y : Str} {px py pt : Pos} {kt k2 pt2} (hc : X.calm = true) (hN : X.N.Nodup) (ha : DA X T W [a, b] fs)
    (hi : X.N[i]? = some x := by rfl) (hj : X.N[j]? = some y := by rfl) (hx : Loc X.env.scope x := by first | exact Or.inl rfl | exact Or.inr rfl) (hy : Loc X.env.scope y := by first | exact Or.inl rfl | exact Or.inr rfl)
    (hfx : X.fn x = true ∨ X.env.scope.names.lookup x = some .local := by first | exact .inl rfl | exact .inr rfl) (hfy : X.fn y = true ∨ X.env.scope.names.lookup y = some .local := by first | exact .inl rfl | exact .inr rfl) (hPi : i ∉ P := by decide) (hPj : j ∉ P := by decide)
    (hs : swapsWithSole [.Tuple [.Name x px, .Name y py] kt pt] (.Tuple [a, b] k2 pt2) pos.line X.env = pure false := by rfl) (hw : swappedStores [.Tuple [.Name x px, .Name y py] kt pt] (.Tuple [a, b] k2 pt2) X.env = pure none := by rfl)
    (h1 : (assignEach [.Tuple [.Name x px, .Name y py] kt pt] X.env).map (·.2) = [assign (.Tuple [.Name x px, .Name y py] kt pt) X.env] := by rfl)
    (hq1 : (assignEach [.Name x px, .Name y py] X.env).map (·.2) = assign (.Name x px) X.env :: (assignEach [.Name y py] X.env).map (·.2) := by rfl) (hq2 : (assignEach [.Name y py] X.env).map (·.2) = assign (.Name y py) X.env :: (assignEach [] X.env).map (·.2) := by rfl)
    (hn : (assignEach [.Name x px, .Name y py] X.env).length = 2 := by rfl) (hst : (assignEach [.Name x px, .Name y py] X.env).findIdx? (·.1) = none := by rfl) :
    DS X T W P (.Assign [.Tuple [.Name x px, .Name y py] kt pt] (.Tuple [a, b] k2 pt2) pos) (dPar i j fs) := by
  refine PS.imp (ps_asg (pe_tup ha) (pg_tup hc (pgs_cons (pg_name hN hi hx hfx) (pgs_cons (pg_name hN hj hy hfy) pgs_nil hq2) hq1) hn hst) hs hw h1) fun D σ H q => ?_
  obtain ⟨F, ε, k, p⟩ := q
  show tDA X.K T W fs σ H _
  refine tDA_useS (g := fun rs ε1 => vPar i j ε1 rs) (S := SF X.K T H D) k Ext.refl (fun _ _ => rfl) p fun vs F1 H0 rs ε1 k0 x0 y0 q0 n1 nd p1 => ?_
  unfold vPar at p1
  split at p1
  · rename_i r1 r2
    obtain ⟨v, w, rfl, _⟩ := id q0
    obtain ⟨v', w', e', h1', h2'⟩ := q0
    cases e'
    obtain ⟨w2, w0, rfl, h2, h3⟩ := h2'
    have h3 : w0 = [] := h3
    subst h3
    refine ⟨by show 2 ≤ sizeLine; rw [sizeLine_eq]; omega, fun t ht => ⟨t, [v, w2], rfl, .inl (.inl upd_same), rfl, v, [w2], rfl, w2, [], rfl, rfl, ?_⟩⟩
    have k1 : Ok X.K T F1 (upd H0 t (.tup [v, w2])) σ ε1 := ok_alloc k0 ht
    have x1 : Ext F H σ ε F1 (upd H0 t (.tup [v, w2])) σ ε1 := y0.alloc ht
    have ex : Ext F1 H0 σ ε1 F1 (upd H0 t (.tup [v, w2])) σ ε1 := Ext.refl.alloc ht
    have h1 := RpR.ext ex h1'
    have h2 := RpR.ext ex h2
    by_cases hfn : (isFN r1 && isFN r2) = true
    · rw [if_pos hfn] at p1
      rw [Bool.and_eq_true] at hfn
      cases e1 : vSto i ε1 r1 with
      | none => simp only [e1] at p1; exact p1.elim
      | some ε2 =>
        simp only [e1] at p1
        cases e2 : vSto j ε2 r2 with
        | none => simp only [e2] at p1; exact p1.elim
        | some ε3 =>
          simp only [e2] at p1
          have nda : ∀ a ∈ newA r2 w2, a ∉ newA r1 v := fun a ha hb => by
            have nd' : (newA r1 v ++ (newA r2 w2 ++ [])).Nodup := nd
            rw [List.append_nil] at nd'
            exact (List.nodup_append.mp nd').2.2 a hb a ha rfl
          obtain ⟨k2, x2⟩ := sto_fn (i := i) hfn.1 x1 k1 h1 (fun a ha => n1 a (List.mem_append_left _ ha)) e1
          have h2'' := rpR_sto (i := i) h1 h2 hfn.1 hfn.2 nda e1
          obtain ⟨F3, k3, x3, s3⟩ := sto_ok (i := j) x2 k2 h2'' (fun a ha => n1 a (List.mem_append_right _ (List.mem_append_left _ ha))) e2
          refine p1 F3 _ _ k3 x3 fun l hl => ?_
          rw [List.getElem?_set_ne (fun z => hPj (by rw [z]; exact hl)), List.getElem?_set_ne (fun z => hPi (by rw [z]; exact hl))]
    · rw [if_neg hfn] at p1; exact p1.elim
  · exact p1.elim
end
end DL

/-! DL37: lists that are lent, the answer made of tuples -/
namespace DL
open PySem PySem.Spec PyProof.Rows L2
mutual
def noL : D → Bool
  | .non => true | .bl _ => true | .int _ => true | .str _ => true | .fn _ => true | .ty _ => true
  | .tup ds => noLs ds
  | _ => false
def noLs : List D → Bool
  | [] => true
  | d :: ds => noL d && noLs ds
end
section
variable {K : PySem.W.Frag} {T : Tab} {F F' : Hp}
mutual
theorem noL_rp (hF : ∀ a o vs, F a = some (.frz o (.tup vs)) → F' a = some (.frz o (.tup vs))) : ∀ (d : D) (v : V), noL d = true → Rp K T F d v → Rp K T F' d v
  | .non, v, _, h => by unfold Rp at h ⊢; exact h
  | .bl b, v, _, h => by unfold Rp at h ⊢; exact h
  | .int i, v, _, h => by unfold Rp at h ⊢; exact h
  | .str x, v, _, h => by unfold Rp at h ⊢; exact h
  | .fn n, v, _, h => by unfold Rp at h ⊢; exact h
  | .ty n, v, _, h => by unfold Rp at h ⊢; exact h
  | .tup ds, v, e, h => by
    unfold Rp at h ⊢
    obtain ⟨a, vs, ev, q, r⟩ := h
    refine ⟨a, vs, ev, ?_, noLs_rp hF ds vs (by unfold noL at e; exact e) r⟩
    rcases q with ⟨o, q, z⟩ | q
    · exact .inl ⟨o, hF a o vs q, z⟩
    · exact .inr q
  | .lst _, v, e, h => by simp [noL] at e
  | .dK _ _, v, e, h => by simp [noL] at e
  | .dT _ _, v, e, h => by simp [noL] at e
  | .dF _ _, v, e, h => by simp [noL] at e
  | .fl _, v, e, h => by simp [noL] at e
  | .ins _ _ _, v, e, h => by simp [noL] at e
theorem noLs_rp (hF : ∀ a o vs, F a = some (.frz o (.tup vs)) → F' a = some (.frz o (.tup vs))) : ∀ (ds : List D) (vs : List V), noLs ds = true → Rps K T F ds vs → Rps K T F' ds vs
  | [], vs, _, h => by unfold Rps at h ⊢; exact h
  | d :: ds, vs, e, h => by
    unfold Rps at h ⊢
    obtain ⟨v, r, ev, h1, h2⟩ := h
    unfold noLs at e
    rw [Bool.and_eq_true] at e
    exact ⟨v, r, ev, noL_rp hF d v e.1 h1, noLs_rp hF ds r e.2 h2⟩
end
end
def vLendT (bs : List Nat) (ε : En) (o : O R) : O R :=
  match o with
  | .ok (.fz d) ε' => if noL d = true then .ok (.fz d) (backE bs 0 ε ε') else .bad
  | _ => .bad
/-- the slots bs lent, the answer made of tuples and plain values -/
def dLendT (bs : List Nat) (f : En → O R) : En → O R := fun ε => vLendT bs ε (f (lendE bs 0 ε))
section
variable {K : PySem.W.Frag} {T : Tab} {bs : List Nat} {F H : Hp} {σ : L2.St} {ε : En}
theorem lendT_use {W : WX} {f : En → O R} {Q : VK} (q : tD K T W (dLendT bs f) σ H Q) : tD K T W f σ H Q := by
  obtain ⟨F, ε, k, p⟩ := q
  refine ⟨lendF bs F H σ ε, lendE bs 0 ε, lend_ok k, ?_⟩
  unfold dLendT vLendT at p
  cases e : f (lendE bs 0 ε) with
  | bad => simp only [e] at p; exact p
  | exn c ε2 => simp only [e] at p; exact p.elim
  | ok r ε2 =>
    cases r with
    | «at» i => simp only [e] at p; exact p.elim
    | new d => simp only [e] at p; exact p.elim
    | fz d =>
      simp only [e] at p
      split at p
      · rename_i hr
        intro F2 H2 k2 x2 v hv hn
        obtain ⟨k3, x3⟩ := lend_back k k2 x2
        refine p (takeF bs F2 σ ε) H2 k3 x3 v (noL_rp (fun a o vs h => ?_) d v hr hv) hn
        by_cases hl : LentAt bs σ ε a
        · obtain ⟨i, d', hb, ei, si⟩ := id hl
          obtain ⟨c, u, s2, _, g, r⟩ := k.own i d' ei
          rw [si] at s2; cases s2
          have h2 := x2.fs a u (by rw [lendF_at hl]; exact g)
          rw [h] at h2
          cases h2
          cases d' <;> exact r.elim
        · rw [takeF_not hl]; exact h
      · exact p.elim
end
theorem de_lendT {X : Cx} {T : Tab} {W : WX} {e : Expr} {f : En → O R} (bs : List Nat) (h : DE X T W e f) : DE X T W e (dLendT bs f) := PE.imp h fun _ _ _ q => lendT_use q
end DL

/-! DL38: sorted(a list of tuples of data), any length; a walk over the keys of a dict, which is locked from then on -/
namespace DL
open PySem PySem.Spec PyProof.Rows L2
/-! ### sorted -/
def rSortD (K : PySem.W.Frag) : List V → Hp → VK → Prop := fun xs H Q => ∃ (a : Addr) (bs : List (V × PyData)), xs = [.ref a] ∧ SqL K H a (bs.map (·.1)) ∧ (∀ b ∈ bs, Dp K H b.1 b.2) ∧ PySem.W.AllAlike (bs.map (·.2)) ∧ PySem.W.Sortable (bs.map (·.2)) ∧ (∀ b ∈ bs, b.2.depth ≤ 20) ∧
  ∀ p, H p = none → Q (.ref p) (upd H p (.lst ((bs.mergeSort (PySem.W.dataLe false (·.2))).map (·.1))))
theorem vals_each {β : Type} {f : β → V} : ∀ {bs : List β} {its : List Value}, Vals (bs.map f) its → PySem.W.EachIs (fun v b => RelV (f b) v) its bs
  | [], its, h => by cases h; exact .nil
  | b :: bs, its, h => by
    cases h with
    | cons h1 h2 => exact .cons h1 (vals_each h2)
theorem each_vals {β : Type} {f : β → V} : ∀ {bs : List β} {its : List Value}, PySem.W.EachIs (fun v b => RelV (f b) v) its bs → Vals (bs.map f) its
  | _, _, .nil => .nil
  | _, _, .cons h1 h2 => .cons h1 (each_vals h2)
theorem cr_sortD {X : Cx} (hu : X.A.units + 64 < cLine) : CallR X (.builtin "sorted") (rSortD X.K) := by
  intro pins s σ H xs us Q I r h
  obtain ⟨a, bs, rfl, hs, hd, ha, hk, hdp, q⟩ := h
  obtain ⟨its, rv, p, hz⟩ := I.list hs
  rw [Vals.ref1 r]
  have e := vals_each (f := fun b : V × PyData => b.1) rv
  have er : PySem.W.EachIs (fun v (b : V × PyData) => ∃ as, Reads s.heap v b.2 as) its bs := (PySem.W.each_mem e).mono fun v b ⟨h1, h2⟩ => Dp.reads I b.2 b.1 v (hd b h2) h1
  refine PySem.W.sorted_data (enc := fun b : V × PyData => b.2) p.isList e er ha hk (by simpa using hz) (fun b hb => by have := hdp b hb; omega) fun out ho eo => ?_
  obtain ⟨c, hc⟩ := PyProof.Rows.sortedAll_at s.heap its out.toArray
  have hv := each_vals (f := fun b : V × PyData => b.1) eo
  refine ⟨.ref (s.heap.objs.size + 1), _, I.laid (t' := s.toks) (o := .lst ((bs.mergeSort (PySem.W.dataLe false (·.2))).map (·.1))) (fun b u e => PyProof.Rows.sortedAll_old e) (Nat.le_succ _) ⟨?_, out, c, hv, hc⟩, rfl, q _ (I.hok.fresh (Nat.le_succ _))⟩
  rw [hv.length, ho]
  simpa using hz
def sortOk (ds : List D) : Bool := soks ds && decide (deps ds ≤ 20) && (ds.all fun x => ds.all fun y => PySem.W.alike (toP x) (toP y)) && (ds.all fun x => match x with
  | .tup (_ :: _) => true
  | _ => false)
def leD (x y : D) : Bool := PySem.W.dataLe false toP x y
def gSortedX : List D → Option An
  | [.lst ds] => if sortOk ds = true then some (.nw (.lst (ds.mergeSort leD))) else none
  | _ => none
theorem rps_zip {K : PySem.W.Frag} {T : Tab} {F : Hp} : ∀ {ds : List D} {vs : List V}, Rps K T F ds vs → (∀ b ∈ vs.zip ds, Rp K T F b.2 b.1)
  | [], vs, h, b, hb => by rw [rps_nil.mp h] at hb; simp at hb
  | d :: ds, vs, h, b, hb => by
    obtain ⟨v, r, rfl, h1, h2⟩ := rps_cons.mp h
    rw [List.zip_cons_cons] at hb
    rcases List.mem_cons.mp hb with e | hb
    · subst e; exact h1
    · exact rps_zip h2 b hb
theorem rps_unzip {K : PySem.W.Frag} {T : Tab} {F : Hp} : ∀ {l : List (V × D)}, (∀ b ∈ l, Rp K T F b.2 b.1) → Rps K T F (l.map (·.2)) (l.map (·.1))
  | [], _ => rps_nil.mpr rfl
  | b :: l, h => rps_cons.mpr ⟨_, _, rfl, h b List.mem_cons_self, rps_unzip fun c hc => h c (List.mem_cons_of_mem _ hc)⟩
theorem deps_mem : ∀ {ds : List D} {d : D}, d ∈ ds → dep d ≤ deps ds
  | [], d, h => by simp at h
  | e :: ds, d, h => by
    unfold deps
    rcases List.mem_cons.mp h with z | z
    · rw [z]; exact Nat.le_max_left _ _
    · exact Nat.le_trans (deps_mem z) (Nat.le_max_right _ _)
theorem fn_sortX {K : PySem.W.Frag} {T : Tab} : FnA K T gSortedX (rSortD K) := fun ds a vs F H Q e r s q => by
  unfold gSortedX at e
  split at e
  · rename_i es
    split at e
    · rename_i h
      cases e
      obtain ⟨v, rfl, b, us, rfl, hs, hr⟩ := rpis1 r
      unfold sortOk at h
      simp only [Bool.and_eq_true, decide_eq_true_eq] at h
      obtain ⟨⟨⟨h1, h2⟩, h3⟩, h4⟩ := h
      have hrH := Rps.mono s _ _ hr
      have hl := hr.length
      let l := us.zip es
      have m1 : l.map (·.1) = us := List.map_fst_zip (by omega)
      have m2 : l.map (·.2) = es := List.map_snd_zip (by omega)
      let bs : List (V × PyData) := l.map fun b => (b.1, toP b.2)
      have b1 : bs.map (·.1) = us := by show (l.map _).map _ = us; rw [List.map_map]; exact m1
      have b2 : bs.map (·.2) = es.map toP := by
        show (l.map _).map _ = _
        rw [List.map_map, ← m2, List.map_map]; rfl
      have hm : ∀ x ∈ l, x.2 ∈ es := fun x hx => by rw [← m2]; exact List.mem_map_of_mem hx
      refine ⟨b, bs, rfl, by rw [b1]; exact hs, fun x hx => ?_, ?_, ?_, fun x hx => ?_, fun p hp => ?_⟩
      · obtain ⟨y, hy, rfl⟩ := List.mem_map.mp hx
        exact rp_dp y.2 y.1 (soks_mem h1 (hm y hy)) (rps_zip hrH y hy)
      · rw [b2]
        intro x hx y hy
        obtain ⟨dx, mx, rfl⟩ := List.mem_map.mp hx
        obtain ⟨dy, my, rfl⟩ := List.mem_map.mp hy
        exact List.all_eq_true.mp (List.all_eq_true.mp h3 dx mx) dy my
      · rw [b2]
        refine .inl fun x hx => ?_
        obtain ⟨dx, mx, rfl⟩ := List.mem_map.mp hx
        have := List.all_eq_true.mp h4 dx mx
        split at this
        · rename_i c cs
          unfold toP toPs
          exact ⟨_, _, rfl⟩
        · cases this
      · obtain ⟨y, hy, rfl⟩ := List.mem_map.mp hx
        have hs1 := soks_mem h1 (hm y hy)
        show (toP y.2).depth ≤ 20
        rw [toP_dep y.2 hs1]
        exact Nat.le_trans (deps_mem (hm y hy)) h2
      · have hms : bs.mergeSort (PySem.W.dataLe false (·.2)) = (l.mergeSort fun x y => leD x.2 y.2).map fun b => (b.1, toP b.2) := by
          rw [List.map_mergeSort]
          intro x _ y _
          rfl
        have hm2 : (l.mergeSort fun x y => leD x.2 y.2).map (·.2) = es.mergeSort leD := by
          rw [List.map_mergeSort (s := leD) (fun x _ y _ => rfl), m2]
        rw [hms, List.map_map]
        have hp2 : Rps K T F ((l.mergeSort fun x y => leD x.2 y.2).map (·.2)) ((l.mergeSort fun x y => leD x.2 y.2).map (·.1)) := rps_unzip fun x hx => rps_zip hr x ((List.mergeSort_perm l _).mem_iff.mp hx)
        rw [hm2] at hp2
        exact q p _ hp hp2
    · cases e
  · cases e
section
variable {X : Cx} {T : Tab} {W : WX} {e tg o i : Expr} {f fo fi : En → O R} {fs : En → O (List R)} {pos p : Pos}
theorem de_sortedX (hu : X.A.units + 64 < cLine) (gl : Gl X "sorted") (hm : X.mg "sorted" = none) (ha : DA X T W [e] fs) (he : starEach [e] X.env = (false, eval e X.env) :: starEach [] X.env := by rfl) : DE X T W (.Call (.Name "sorted" p) [e] [] pos) (dFn gSortedX fs) := de_fn (cr_sortD hu) fn_sortX gl hm ha (he := he)
/-! ### the keys of a dict -/
def iKeysL (td : TE) : TI := fun σ H R => td σ H fun x H1 => ∃ d, x = .ref d ∧ ((∃ kvs o, H1 d = some (.frz o (.dK kvs)) ∧ R (Itk d o kvs) H1) ∨ ∃ kvs, H1 d = some (.dK kvs) ∧ ∀ o, R (Itk d o kvs) (upd H1 d (.frz o (.dK kvs))))
theorem pi_keysL {td : TE} (he : PE X e td) : PI X tg e (iKeysL td) := by
  refine ⟨fun pins s σ H R I h => ?_⟩
  refine thn (he.run pins s σ H _ I h) fun u s1 ⟨x, H1, I1, rx, d, ex, q⟩ => ?_
  subst ex
  obtain rfl : u = Value.ref d := rx
  obtain ⟨H2, o, kvs, I2, hd, q⟩ : ∃ (H2 : Hp) (o : Obj) (kvs : List (Key × V)), Inv X pins σ H2 s1 ∧ H2 d = some (.frz o (.dK kvs)) ∧ R (Itk d o kvs) H2 := by
    rcases q with ⟨kvs, o, hd, q⟩ | ⟨kvs, hd, q⟩
    · exact ⟨H1, o, kvs, I1, hd, q⟩
    · have ok := I1.hok d _ hd
      obtain ⟨z, hs, vs, kv, o, es, ep, ho, r⟩ := id ok
      have I2 : Inv X pins σ (upd H1 d (.frz o (.dK kvs))) s1 := I1.write (t' := s1.toks) (h' := s1.heap) (x := d) (e := d) (o := .frz o (.dK kvs)) (by rw [hd]; trivial) (.inl rfl) (fun b u _ q => q) ⟨o, ho⟩ ⟨ho, z, hs, vs, kv, o, es, ep, ho, r⟩
      exact ⟨_, o, kvs, I2, upd_same, q o⟩
  obtain ⟨hs, hgd, hx, es, ep, vs, hdt, hsz, kv, hm⟩ := I2.frzK hd
  refine iter_keys hs hgd hx hdt (pi_one (tk := s1.toks) I2 _ (turn_keys _ hdt) ⟨_, Heap.get?_push_size _ rfl, rfl, ?_⟩ q)
  rw [hsz] <;> rfl
def kD : Key → D
  | .inl i => .int i
  | .inr x => .str x
theorem kD_rp {K : PySem.W.Frag} {T : Tab} {F : Hp} {k : Key} : Rp K T F (kD k) (kV k) := by
  cases k with
  | inl i => exact rp_int.mpr rfl
  | inr x => exact rp_str.mpr rfl
def vKeys (ε : En) (r : R) : O (List D) :=
  match r with
  | .fz (.dF ks _) => .ok (ks.map kD) ε
  | .at i => match ε[i]? with
    | some (.own (.dK ks ds)) => .ok (ks.map kD) (ε.set i (.fz (.dF ks ds)))
    | _ => .bad
  | _ => .bad
def dKeys (f : En → O R) : En → O (List D) := fun ε => (f ε).bind fun r ε1 => vKeys ε1 r
theorem yj_keys {K : PySem.W.Frag} {T : Tab} {F : Hp} {d : Addr} {o : Obj} {ks : List Key} {vs : List V} (hl : ks.length = vs.length) (h : F d = some (.frz o (.dK (ks.zip vs)))) : YJ K T F (Itk d o (ks.zip vs)) (ks.map kD) := yj_still fun F1 H1 s1 s2 => by
  have h1 := s2 _ _ (s1 _ _ h)
  have hz : (ks.zip vs).length = ks.length := by rw [List.length_zip]; omega
  refine ⟨fun i hi => ?_, ⟨h1, by rw [hz, List.length_map]; exact Nat.le_refl _⟩⟩
  rw [List.length_map] at hi
  refine ⟨⟨h1, by rw [hz]; exact hi⟩, fun x H2 ⟨e, k, v, hk, ex⟩ => ⟨e, kD k, ?_, ?_⟩⟩
  · have := List.getElem?_zip_eq_some.mp hk
    rw [List.getElem?_map, this.1]; rfl
  · rw [ex]; exact kD_rp
theorem ok_lock {K : PySem.W.Frag} {F H : Hp} {σ : L2.St} {ε : En} {i : Nat} {ks : List Key} {ds : List D} {a : Addr} {vs : List V} {o : Obj} (k : Ok K T F H σ ε) (hd : ε[i]? = some (.own (.dK ks ds))) (e1 : σ[i]? = some (some (.ref a))) (f : F a = none) (g : H a = some (.dK (ks.zip vs))) (hl : ks.length = ds.length) (hr : Rps K T F ds vs) :
    Ok K T (upd F a (.frz o (.dK (ks.zip vs)))) (upd H a (.frz o (.dK (ks.zip vs)))) σ (ε.set i (.fz (.dF ks ds))) ∧ Ext F H σ ε (upd F a (.frz o (.dK (ks.zip vs)))) (upd H a (.frz o (.dK (ks.zip vs)))) σ (ε.set i (.fz (.dF ks ds))) := by
  have hil : i < ε.length := (List.getElem?_eq_some_iff.mp hd).1
  have hown : OwnAt σ ε a := ⟨i, _, hd, e1⟩
  have get : ∀ {j : Nat} {d1 : D}, (ε.set i (.fz (.dF ks ds)))[j]? = some (.own d1) → i ≠ j ∧ ε[j]? = some (.own d1) := fun {j d1} ej => by
    by_cases hj : i = j
    · subst hj
      rw [List.getElem?_set_self hil] at ej
      cases ej
    · rw [List.getElem?_set_ne hj] at ej
      exact ⟨hj, ej⟩
  refine ⟨⟨fun b u e => ?_, by rw [List.length_set]; exact k.len, fun j d1 ej => ?_, fun j d1 ej => ?_, fun j1 j2 d1 d2 b ej1 ej2 s1 s2 => k.sep j1 j2 d1 d2 b (get ej1).2 (get ej2).2 s1 s2⟩, ⟨same_upd f, fun b u e n => ?_, fun b e => ?_, fun b e => ?_, fun b hb => .inl (own_set' hb)⟩⟩
  · by_cases hb : b = a
    · subst hb; rw [upd_same] at e ⊢; exact e
    · rw [upd_ne hb] at e ⊢; exact k.sub _ _ e
  · by_cases hj : i = j
    · subst hj
      rw [List.getElem?_set_self hil] at ej
      cases ej
      exact ⟨_, e1, rp_dF.mpr ⟨a, o, vs, rfl, upd_same, hl, Rps.mono (same_upd f) _ _ hr⟩⟩
    · rw [List.getElem?_set_ne hj] at ej
      obtain ⟨w, s1, r1⟩ := k.fz j d1 ej
      exact ⟨w, s1, Rp.mono (same_upd f) _ _ r1⟩
  · obtain ⟨hj, ej⟩ := get ej
    obtain ⟨b, u, s1, f1, g1, r1⟩ := k.own j d1 ej
    have hba : b ≠ a := fun z => hj (k.sep i j _ d1 a hd ej e1 (z ▸ s1))
    exact ⟨b, u, s1, by rw [upd_ne hba]; exact f1, by rw [upd_ne hba]; exact g1, r1.mono (same_upd f)⟩
  · by_cases hb : b = a
    · subst hb; exact absurd hown n
    · rw [upd_ne hb]; exact e
  · by_cases hb : b = a
    · subst hb; rw [upd_same] at e; cases e
    · rw [upd_ne hb] at e; exact e
  · by_cases hb : b = a
    · subst hb; exact .inr (.inr hown)
    · rw [upd_ne hb] at e; exact .inl e
where
  own_set' {b : Addr} (hb : OwnAt σ (ε.set i (.fz (.dF ks ds))) b) : OwnAt σ ε b := own_set hb
theorem di_keys (he : DE X T W e f) : DI X T W tg e (dKeys f) := by
  refine PI.imp (pi_keysL he) fun σ H Q q => ?_
  obtain ⟨F, ε, k, p⟩ := q
  refine tD_use (g := fun r ε1 => vKeys ε1 r) k Ext.refl p fun v F1 H1 r ε1 k1 x1 _ q1 n1 p1 => ?_
  unfold vKeys at p1
  split at p1
  · rename_i ks ds
    obtain ⟨a, o, vs, rfl, hF, hl, hr⟩ := rp_dF.mp q1
    refine ⟨a, rfl, .inl ⟨_, o, k1.sub _ _ hF, p1 F1 H1 k1 x1 _ (yj_keys (by rw [hr.length]; exact hl) hF)⟩⟩
  · rename_i i
    split at p1
    · rename_i ks ds e1
      obtain ⟨a, o, s1, f1, g1, r1⟩ := k1.own i _ e1
      have e2 : σ[i]? = some (some v) := q1
      rw [s1] at e2
      cases e2
      obtain ⟨vs, rfl, hl, hr⟩ := rpO_dK.mp r1
      refine ⟨a, rfl, .inr ⟨_, g1, fun ob => ?_⟩⟩
      obtain ⟨k2, x2⟩ := ok_lock (o := ob) k1 e1 s1 f1 g1 hl hr
      exact p1 _ _ k2 (x1.trans x2) _ (yj_keys (by rw [hr.length]; exact hl) upd_same)
    · exact p1.elim
  · exact p1.elim
/-- d[k] of a locked dict -/
def vGetF (ε : En) (r1 r2 : R) : O R :=
  match res ε r1, res ε r2 with
  | some (.dF ks ds), some dk => match toKey dk with
    | some k => match lkp ks ds k with
      | some d => .ok (.fz d) ε
      | none => .bad
    | none => .bad
  | _, _ => .bad
def dGetF (fo fi : En → O R) : En → O R := fun ε => (fo ε).bind fun r1 ε1 => (fi ε1).bind fun r2 ε2 => vGetF ε2 r1 r2
theorem de_getF (hu : X.A.units + 64 < cLine) (ho : DE X T W o fo) (hi : DE X T W i fi) (hs : NoSl i := by intro _ _; rfl) : DE X T W (.Subscript o i pos) (dGetF fo fi) := by
  refine PE.imp (pe_dget (by omega) ho hi hs) fun σ H Q q => ?_
  obtain ⟨F, ε, k, p⟩ := q
  refine two_use (g := fun r1 r2 ε2 => vGetF ε2 r1 r2) k Ext.refl p fun v1 v2 F2 H2 r1 r2 ε2 k2 _ x2 q1 q2 n1 n2 nd p2 => ?_
  unfold vGetF at p2
  split at p2
  · rename_i ks ds dk e1 e2
    cases e3 : toKey dk with
    | none => simp only [e3] at p2; exact p2.elim
    | some key =>
      simp only [e3] at p2
      cases e4 : lkp ks ds key with
      | none => simp only [e4] at p2; exact p2.elim
      | some d =>
        simp only [e4] at p2
        obtain ⟨a, o, vs, rfl, hd, hl, hr⟩ := res_rpi k2 q1 e1
        obtain ⟨v, ev, rv⟩ := hr.lkp.1 d e4
        refine ⟨a, v, rfl, .inl ⟨_, key, .inr ⟨o, hd⟩, toKey_rp e3 (res_rp k2 q2 e2), by rw [lkp_val, ev]⟩, ?_⟩
        exact SE.fin (r := .fz d) k2 x2 p2 rv (by simp [newA])
  · exact p2.elim
end
end DL

/-! DL39: xs.count(k) of a list of ints; sorted(set(t)) of a tuple of ints -/
namespace DL
open PySem PySem.Spec PyProof.Rows L2
section
variable {X : Cx} {T : Tab} {W : WX} {e o a : Expr} {es : List Expr} {f fa : En → O R} {fs : En → O (List R)} {pos apos p p2 q : Pos}
def isLs (ε : En) (r : R) : Bool :=
  match res ε r with
  | some (.lst _) => true
  | _ => false
def vCnt (ε : En) (r : R) (rs : List R) : O R :=
  match res ε r, ress ε rs with
  | some (.lst ds), some [.int k] => match toIs ds with
    | some ns => .ok (.fz (.int (ns.count k : Nat))) ε
    | none => .bad
  | _, _ => .bad
def dCnt (f : En → O R) (fs : En → O (List R)) : En → O R := fun ε => (f ε).bind fun r ε1 => if isLs ε1 r then (fs ε1).bind fun rs ε2 => vCnt ε2 r rs else .bad
theorem de_count (ho : DE X T W o f) (ha : DA X T W (e :: es) fs) (hbase : attributeBase o "count" X.env (eval o X.env) = eval o X.env := by rfl)
    (hfew : ((backTo pos (starEach (e :: es) X.env)).all (fun x => !x.1) && (backToKw pos (keywordEach [] X.env)).all (fun x => x.1.isSome)
      && decide ((e :: es).length + ([] : List Keyword).length + (if ([] : List Keyword).isEmpty then 0 else 1) < 30)) = true := by rfl)
    (hline : (apos.endLine == pos.line) = true := by rfl) (hs : starEach (e :: es) X.env = (false, eval e X.env) :: starEach es X.env := by rfl) (hplain : (backTo pos (starEach es X.env)).any (·.1) = false := by rfl) :
    DE X T W (.Call (.Attribute o "count" apos) (e :: es) [] pos) (dCnt f fs) := by
  refine PE.imp (pe_bm PySem.F.plainAttrs_list PySem.F.slot_list_count PySem.F.type_list_count mt_lcount ho ha hbase hfew hline hs hplain) fun σ H Q q => ?_
  obtain ⟨F, ε, k, p⟩ := q
  refine tD_use (g := fun r ε1 => if isLs ε1 r then (fs ε1).bind fun rs ε2 => vCnt ε2 r rs else .bad) k Ext.refl p fun v F1 H1 r ε1 k1 _ x1 q1 n1 p1 => ?_
  by_cases hT : isLs ε1 r = true
  · rw [if_pos hT] at p1
    obtain ⟨ds0, e0⟩ : ∃ ds, res ε1 r = some (.lst ds) := by
      unfold isLs at hT
      split at hT
      · rename_i ds e; exact ⟨ds, e⟩
      · cases hT
    obtain ⟨a0, vs0, rfl, hq0, _⟩ := res_rpi k1 q1 e0
    refine ⟨.inl ⟨rfl, vs0, hq0⟩, ?_⟩
    refine tDA_use (g := fun rs ε2 => vCnt ε2 r rs) k1 x1 p1 fun vs F2 H2 rs ε2 k2 y2 x2 q2 n2 nd p2 => ?_
    unfold vCnt at p2
    split at p2
    · rename_i ds kk e1 e2
      cases e3 : toIs ds with
      | none => simp only [e3] at p2; exact p2.elim
      | some ns =>
        simp only [e3] at p2
        obtain ⟨a1, vs1, ev, hq1, hr1⟩ := res_rpi k2 (q1.ext y2) e1
        obtain ⟨w, rfl, hw⟩ := rpis1 (ress_rpis k2 q2 e2)
        rw [rps_ints e3 hr1] at hq1
        exact ⟨a1, ns, kk, ev, by rw [rpi_int hw], hq1, SE.flat (H' := H2) k2 x2 p2 rfl (rp_int.mpr rfl)⟩
    · exact p2.elim
  · rw [if_neg hT] at p1; exact p1.elim
/-! ### sorted(set(t)) -/
def tSrtSet (K : PySem.W.Frag) (ta : TE) : TE := fun σ H Q => ta σ H fun x H1 => ∃ (l : Addr) (ns : List Int), x = .ref l ∧ SqT K H1 l (ns.map V.int) ∧ ns.length < 64 ∧ ∀ p, H1 p = none → Q (.ref p) (upd H1 p (.lst ((srt (dd ns)).map V.int)))
theorem srt_dd {ns ks : List Int} (h : ks.Pairwise (· < ·)) (m : ∀ k, k ∈ ks ↔ k ∈ ns) : ks = srt (dd ns) := by
  have hn : ks.Nodup := h.imp fun h e => by omega
  exact srt_of ((List.perm_ext_iff_of_nodup hn (dd_nodup ns)).mpr fun k => (m k).trans (dd_mem ns k).symm) (h.imp fun h => Int.le_of_lt h)
theorem pe_srtSet {ta : TE} (hc : X.calm = true) (hg : Gl X "sorted") (hm : X.mg "sorted" = none) (hg2 : Gl X "set") (hm2 : X.mg "set" = none) (ha : PE X a ta)
    (na : starEach [a] X.env = (false, eval a X.env) :: starEach [] X.env := by rfl) : PE X (.Call (.Name "sorted" p) [.Call (.Name "set" p2) [a] [] q] [] pos) (tSrtSet X.K ta) := by
  refine ⟨fun pins s σ H Q I h => ?_⟩
  refine Call_ (ld_blt I hg hm boot_sorted ?_)
  refine PyProof.Rows.callWith_builtin1 (PyProof.Rows.args_cons ?_ rfl) rfl rfl
  refine Call_ (ld_blt I hg2 hm2 boot_set ?_)
  refine PyProof.Rows.callWith_type1 (PyProof.Rows.args_cons (thn (ha.run pins s σ H _ I h) fun v s1 ⟨x, H1, I1, r1, q1⟩ => PyProof.Rows.args_nil ?_) na) na rfl
  obtain ⟨l, ns, rfl, hq, hl, q1⟩ := q1
  cases r1
  obtain ⟨its, r, pl, hz⟩ := I1.tuple hq
  refine call_set_tupI ns (I1.ok.hd hc) (show s1.heap.IsTuple l its.toArray from pl) (by simpa using r.ints) (by unfold scanBound; omega) fun h' tk c hS hcn hk => ?_
  refine PyProof.Rows.args_nil ?_
  have I2 : Inv X pins σ H1 { s1 with heap := h', toks := tk } := I1.kept hk
  refine sorted_set (s := { s1 with heap := h', toks := tk }) hS (I2.ok.hd hc) (by omega) fun s' d out c2 ks k g o hp hg' hi hs hmm hll => ?_
  have ek : ks = srt (dd ns) := srt_dd hs fun k => by rw [hmm k, decide_eq_true_eq]
  subst ek
  have hn : H1 d = none := I2.hok.fresh hp
  have hlen : ((srt (dd ns)).map V.int).length ≤ sizeLine := by rw [List.length_map, hll, sizeLine_eq]; omega
  have J : Inv X pins σ (upd H1 d (.lst ((srt (dd ns)).map V.int))) { ({ s1 with heap := h', toks := tk } : Shared) with heap := s'.heap, gens := s'.gens, drawn := s'.drawn, toks := s'.toks } :=
    Inv.call (s := { s1 with heap := h', toks := tk }) I2 (ch := []) (Un.laid k hp hn) (I2.hok.laid k hp ⟨hlen, out.toList, c2, vals_of_ints hi, hg'⟩) (by rw [g]; exact I2.bare) (fun _ z => nomatch z)
  have e : s' = { s1 with heap := s'.heap, gens := s'.gens, drawn := s'.drawn, toks := s'.toks } := by
    cases s'
    cases s1
    cases o
    rfl
  rw [e]
  exact ⟨.ref d, _, J, rfl, q1 d hn⟩
def vSrtSet (ε : En) (r : R) : O R :=
  match res ε r with
  | some (.tup ds) => match toIs ds with
    | some ns => if ns.length < 64 then .ok (.new (.lst ((srt (dd ns)).map .int))) ε else .bad
    | none => .bad
  | _ => .bad
def dSrtSet (f : En → O R) : En → O R := fun ε => (f ε).bind fun r ε1 => vSrtSet ε1 r
theorem de_srtSet (hc : X.calm = true) (hg : Gl X "sorted") (hm : X.mg "sorted" = none) (hg2 : Gl X "set") (hm2 : X.mg "set" = none) (ha : DE X T W a fa)
    (na : starEach [a] X.env = (false, eval a X.env) :: starEach [] X.env := by rfl) : DE X T W (.Call (.Name "sorted" p) [.Call (.Name "set" p2) [a] [] q] [] pos) (dSrtSet fa) := by
  refine PE.imp (pe_srtSet hc hg hm hg2 hm2 ha na) fun σ H Q q => ?_
  obtain ⟨F, ε, k, p⟩ := q
  refine tD_use (g := fun r ε1 => vSrtSet ε1 r) k Ext.refl p fun v F1 H1 r ε1 k1 _ x1 q1 n1 p1 => ?_
  unfold vSrtSet at p1
  split at p1
  · rename_i ds e1
    cases e2 : toIs ds with
    | none => simp only [e2] at p1; exact p1.elim
    | some ns =>
      simp only [e2] at p1
      by_cases hl : ns.length < 64
      · rw [if_pos hl] at p1
        obtain ⟨b, us, rfl, hq, hr⟩ := res_rpi k1 q1 e1
        rw [rps_ints e2 hr] at hq
        exact ⟨b, ns, rfl, (hq.mono k1.sub).t, hl, fun p hp => SE.new k1 x1 p1 hp (rpO_lst.mpr ⟨_, rfl, (Rps.ints _ _).mpr rfl⟩)⟩
      · rw [if_neg hl] at p1; exact p1.elim
  · exact p1.elim
end
end DL

/-! DL40: an expression whose value is locked at once -/
namespace DL
open PySem PySem.Spec PyProof.Rows L2
section
variable {X : Cx} {T : Tab} {W : WX} {e : Expr} {f : En → O R}
def vFrz (ε : En) (r : R) : O R :=
  match frz ε r with
  | some (d, ε') => .ok (.fz d) ε'
  | none => .bad
def dFrz (f : En → O R) : En → O R := fun ε => (f ε).bind fun r ε1 => vFrz ε1 r
theorem de_frz (h : DE X T W e f) : DE X T W e (dFrz f) := by
  refine PE.imp h fun σ H Q q => ?_
  obtain ⟨F, ε, k, p⟩ := q
  refine tD_use (g := fun r ε1 => vFrz ε1 r) k Ext.refl p fun v F1 H1 r ε1 k1 x1 _ q1 n1 p1 => ?_
  unfold vFrz at p1
  cases e1 : frz ε1 r with
  | none => simp only [e1] at p1; exact p1.elim
  | some z =>
    obtain ⟨d, ε2⟩ := z
    simp only [e1] at p1
    obtain ⟨F2, k2, x2, r2, _⟩ := frz_ok x1 k1 q1 n1 e1
    exact SE.fin (r := .fz d) k2 x2 p1 r2 (by simp [newA])
end
end DL

/-! DL41: rows that are new: x = f(..); a test; x[0].append(n) -/
namespace DL
open PySem PySem.Spec PyProof.Rows L2
/-! ### a list as a plain known list -/
section
variable {K : PySem.W.Frag} {T : Tab} {F H : Hp} {σ : L2.St} {ε : En}
theorem ok_fl {i : Nat} {ds : List D} {a : Addr} {vs : List V} (k : Ok K T F H σ ε) (hd : ε[i]? = some (.own (.lst ds))) (e1 : σ[i]? = some (some (.ref a))) (f : F a = none) (g : H a = some (.lst vs)) (hr : Rps K T F ds vs) :
    Ok K T (upd F a (.lst vs)) H σ (ε.set i (.fz (.fl ds))) ∧ Ext F H σ ε (upd F a (.lst vs)) H σ (ε.set i (.fz (.fl ds))) := by
  have hil : i < ε.length := (List.getElem?_eq_some_iff.mp hd).1
  have hown : OwnAt σ ε a := ⟨i, _, hd, e1⟩
  have get : ∀ {j : Nat} {d1 : D}, (ε.set i (.fz (.fl ds)))[j]? = some (.own d1) → i ≠ j ∧ ε[j]? = some (.own d1) := fun {j d1} ej => by
    by_cases hj : i = j
    · subst hj
      rw [List.getElem?_set_self hil] at ej
      cases ej
    · rw [List.getElem?_set_ne hj] at ej
      exact ⟨hj, ej⟩
  have own_set' : ∀ {b : Addr}, OwnAt σ (ε.set i (.fz (.fl ds))) b → OwnAt σ ε b := fun {b} ⟨j, d1, ej, s1⟩ => ⟨j, d1, (get ej).2, s1⟩
  refine ⟨⟨upd_sub k.sub g, by rw [List.length_set]; exact k.len, fun j d1 ej => ?_, fun j d1 ej => ?_, fun j1 j2 d1 d2 b ej1 ej2 s1 s2 => k.sep j1 j2 d1 d2 b (get ej1).2 (get ej2).2 s1 s2⟩, ⟨same_upd f, fun b u e _ => e, fun b e => e, fun b e => ?_, fun b hb => .inl (own_set' hb)⟩⟩
  · by_cases hj : i = j
    · subst hj
      rw [List.getElem?_set_self hil] at ej
      cases ej
      exact ⟨_, e1, rp_fl.mpr ⟨a, vs, rfl, upd_same, Rps.mono (same_upd f) _ _ hr⟩⟩
    · rw [List.getElem?_set_ne hj] at ej
      obtain ⟨w, s1, r1⟩ := k.fz j d1 ej
      exact ⟨w, s1, Rp.mono (same_upd f) _ _ r1⟩
  · obtain ⟨hj, ej⟩ := get ej
    obtain ⟨b, u, s1, f1, g1, r1⟩ := k.own j d1 ej
    have hba : b ≠ a := fun z => hj (k.sep i j _ d1 a hd ej e1 (z ▸ s1))
    exact ⟨b, u, s1, by rw [upd_ne hba]; exact f1, g1, r1.mono (same_upd f)⟩
  · by_cases hb : b = a
    · subst hb; exact .inr (.inr hown)
    · rw [upd_ne hb] at e; exact .inl e
end
section
variable {X : Cx} {T : Tab} {W : WX} {e : Expr} {f : En → O R}
def vFl (ε : En) (r : R) : O R :=
  match r with
  | .at i => match ε[i]? with
    | some (.own (.lst ds)) => .ok (.fz (.fl ds)) (ε.set i (.fz (.fl ds)))
    | _ => .bad
  | _ => .bad
def dFl (f : En → O R) : En → O R := fun ε => (f ε).bind fun r ε1 => vFl ε1 r
theorem de_fl (h : DE X T W e f) : DE X T W e (dFl f) := by
  refine PE.imp h fun σ H Q q => ?_
  obtain ⟨F, ε, k, p⟩ := q
  refine tD_use (g := fun r ε1 => vFl ε1 r) k Ext.refl p fun v F1 H1 r ε1 k1 x1 _ q1 n1 p1 => ?_
  unfold vFl at p1
  split at p1
  · rename_i i
    split at p1
    · rename_i ds e1
      obtain ⟨a, o, s1, f1, g1, r1⟩ := k1.own i _ e1
      have e2 : σ[i]? = some (some v) := q1
      rw [s1] at e2
      cases e2
      obtain ⟨vs, rfl, hr⟩ := rpO_lst.mp r1
      obtain ⟨k2, x2⟩ := ok_fl k1 e1 s1 f1 g1 hr
      exact SE.fin (r := .fz (.fl ds)) k2 (x1.trans x2) p1 (rp_fl.mpr ⟨a, vs, rfl, upd_same, Rps.mono (same_upd f1) _ _ hr⟩) (by simp [newA])
    · exact p1.elim
  · exact p1.elim
/-! ### forget that rows are plain -/
def wk1 : D → D
  | .fl ds => .lst ds
  | d => d
theorem wk1_rp {K : PySem.W.Frag} {F : Hp} {d : D} {v : V} (h : Rp K T F d v) : Rp K T F (wk1 d) v := by
  cases d with
  | fl ds =>
    obtain ⟨a, vs, rfl, e, r⟩ := rp_fl.mp h
    exact rp_lst.mpr ⟨a, vs, rfl, .inl (.inl e), r⟩
  | _ => exact h
theorem wk1_rps {K : PySem.W.Frag} {F : Hp} : ∀ {ds : List D} {vs : List V}, Rps K T F ds vs → Rps K T F (ds.map wk1) vs
  | [], vs, h => h
  | d :: ds, vs, h => by
    obtain ⟨v, r, rfl, h1, h2⟩ := rps_cons.mp h
    exact rps_cons.mpr ⟨v, r, rfl, wk1_rp h1, wk1_rps h2⟩
def vWk (ε : En) (r : R) : O R :=
  match r with
  | .new (.lst ds) => .ok (.new (.lst (ds.map wk1))) ε
  | _ => .bad
def dWk (f : En → O R) : En → O R := fun ε => (f ε).bind fun r ε1 => vWk ε1 r
theorem de_wk (h : DE X T W e f) : DE X T W e (dWk f) := by
  refine PE.imp h fun σ H Q q => ?_
  obtain ⟨F, ε, k, p⟩ := q
  refine tD_use (g := fun r ε1 => vWk ε1 r) k Ext.refl p fun v F1 H1 r ε1 k1 x1 _ q1 n1 p1 => ?_
  unfold vWk at p1
  split at p1
  · rename_i ds
    obtain ⟨a, o, rfl, f1, g1, r1, no⟩ := q1
    obtain ⟨vs, rfl, hr⟩ := rpO_lst.mp r1
    exact SE.fin (r := .new (.lst (ds.map wk1))) k1 x1 p1 ⟨a, _, rfl, f1, g1, rpO_lst.mpr ⟨vs, rfl, wk1_rps hr⟩, no⟩ (fun b hb => n1 b (by simpa [newA] using hb))
  · exact p1.elim
end
/-! ### the three statements -/
def keepFz (js : List Nat) : Nat → En → En
  | _, [] => []
  | i, s :: ε => (if js.contains i = true then (match s with
    | .fz d => if noL d = true then .fz d else .no
    | _ => .no) else .no) :: keepFz js (i + 1) ε
theorem keepFz_len (js : List Nat) : ∀ (i : Nat) (ε : En), (keepFz js i ε).length = ε.length
  | _, [] => rfl
  | i, s :: ε => by unfold keepFz; rw [List.length_cons, keepFz_len js (i + 1) ε, List.length_cons]
theorem keepFz_get (js : List Nat) : ∀ (i j : Nat) (ε : En) (s : Sl), (keepFz js i ε)[j]? = some s → s = .no ∨ ∃ d, s = .fz d ∧ ε[j]? = some (.fz d) ∧ noL d = true
  | _, j, [], s, h => by unfold keepFz at h; simp at h
  | i, 0, s' :: ε, s, h => by
    unfold keepFz at h
    simp only [List.getElem?_cons_zero, Option.some.injEq] at h
    by_cases c : js.contains i = true
    · rw [if_pos c] at h
      cases s' with
      | fz d =>
        simp only [] at h
        by_cases c2 : noL d = true
        · rw [if_pos c2] at h; exact .inr ⟨d, h.symm, rfl, c2⟩
        · rw [if_neg c2] at h; exact .inl h.symm
      | _ => exact .inl h.symm
    · rw [if_neg c] at h; exact .inl h.symm
  | i, j + 1, s' :: ε, s, h => by
    unfold keepFz at h
    exact keepFz_get js (i + 1) j ε s (by simpa using h)
open Classical in
noncomputable def tupF (F : Hp) : Hp := fun a => if ∃ o vs, F a = some (.frz o (.tup vs)) then F a else none
theorem tupF_same (F : Hp) : Same (tupF F) F := fun a u e => by
  unfold tupF at e
  split at e
  · exact e
  · cases e
theorem tupF_tup {F : Hp} {a : Addr} {o : Obj} {vs : List V} (h : F a = some (.frz o (.tup vs))) : tupF F a = some (.frz o (.tup vs)) := by
  unfold tupF
  rw [if_pos ⟨o, vs, h⟩]; exact h
theorem tupF_lst {F : Hp} {a : Addr} {vs : List V} : tupF F a ≠ some (.lst vs) := fun h => by
  unfold tupF at h
  split at h
  · rename_i c
    obtain ⟨o, us, e⟩ := c
    rw [e] at h; cases h
  · cases h
section
variable {K : PySem.W.Frag} {T : Tab} {F H : Hp} {σ : L2.St} {ε : En}
theorem keep_ok (js : List Nat) (k : Ok K T F H σ ε) : Ok K T (tupF F) H σ (keepFz js 0 ε) where
  sub := (tupF_same F).trans k.sub
  len := by rw [keepFz_len]; exact k.len
  fz := fun i d e => by
    rcases keepFz_get js 0 i ε _ e with h | ⟨d', h, h1, h2⟩
    · cases h
    · cases h
      obtain ⟨v, s, r⟩ := k.fz i d h1
      exact ⟨v, s, noL_rp (fun a o vs h => tupF_tup h) d v h2 r⟩
  own := fun i d e => by
    rcases keepFz_get js 0 i ε _ e with h | ⟨d', h, _⟩ <;> cases h
  sep := fun i j d d' a e _ _ _ => by
    rcases keepFz_get js 0 i ε _ e with h | ⟨d', h, _⟩ <;> cases h
theorem keep_noown (js : List Nat) {a : Addr} : ¬ OwnAt σ (keepFz js 0 ε) a := fun ⟨i, d, e, _⟩ => by
  rcases keepFz_get js 0 i ε _ e with h | ⟨d', h, _⟩ <;> cases h
end
open Classical in
noncomputable def joinF (F F' : Hp) : Hp := fun a => if F a = none then F' a else F a
theorem joinF_l (F F' : Hp) : Same F (joinF F F') := fun a u e => by
  unfold joinF
  rw [if_neg (by rw [e]; simp)]; exact e
theorem joinF_r {F F' H : Hp} (h1 : Same F H) (h2 : Same F' H) : Same F' (joinF F F') := fun a u e => by
  unfold joinF
  split
  · exact e
  · rename_i c
    cases hf : F a with
    | none => exact absurd hf c
    | some w => rw [← h1 a w hf, h2 a u e]
theorem joinF_sub {F F' H : Hp} (h1 : Same F H) (h2 : Same F' H) : Same (joinF F F') H := fun a u e => by
  unfold joinF at e
  split at e
  · exact h2 a u e
  · exact h1 a u e
theorem joinF_new {F F' : Hp} {a : Addr} (h : joinF F F' a ≠ none) : F a ≠ none ∨ F' a ≠ none := by
  unfold joinF at h
  split at h
  · exact .inr h
  · rename_i c; exact .inl c
def vFresh (i n : Nat) (g2 g4 : En → O Fl) (ε : En) (o : O R) : O Fl :=
  match o with
  | .ok (.new (.lst (.fl r0 :: ds))) _ => if r0.length < 1000 ∧ ε.length = n ∧ i < n then
      match g2 (ε.set i (.fz (.lst (.lst r0 :: ds.map wk1)))) with
      | .ok .nx ε2 => if ε2.length = n then g4 ((backE [] 0 ε ε2).set i .no) else .bad
      | .ok (.rt (.fz d)) ε2 => if ε2.length = n then .ok (.rt (.fz d)) ε2 else .bad
      | _ => .bad
    else .bad
  | _ => .bad
def dFresh (i n : Nat) (js : List Nat) (f : En → O R) (g2 g4 : En → O Fl) : En → O Fl := fun ε => vFresh i n g2 g4 ε (f (keepFz js 0 ε))
section
variable {K : PySem.W.Frag} {T : Tab}
theorem shrink {F H F2 H2 H3 : Hp} {σ σ2 : L2.St} {ε ε2 : En} {i : Nat} {b : Addr} {u : HO} (k : Ok K T F H σ ε) (k2 : Ok K T F2 H2 σ2 ε2) (hl : ε2.length = ε.length) (s : Same F F2) (hσ : ∀ j, j ≠ i → σ2[j]? = σ[j]?) (hb : F b = none) (hb2 : F2 b ≠ none) (h3 : H3 = upd H2 b u) :
    Ok K T F H3 σ2 ((backE [] 0 ε ε2).set i .no) := by
  have hbl : (backE [] 0 ε ε2).length = ε.length := backE_length [] 0 ε ε2 hl
  have get : ∀ {j : Nat} {s : Sl}, ((backE [] 0 ε ε2).set i .no)[j]? = some s → s = .no ∨ (j ≠ i ∧ (backE [] 0 ε ε2)[j]? = some s) := fun {j s} e => by
    by_cases hj : i = j
    · subst hj
      by_cases hi : i < (backE [] 0 ε ε2).length
      · rw [List.getElem?_set_self hi] at e; exact .inl (Option.some.inj e).symm
      · rw [List.getElem?_eq_none (by rw [List.length_set]; omega)] at e; cases e
    · rw [List.getElem?_set_ne hj] at e
      exact .inr ⟨fun z => hj z.symm, e⟩
  have own : ∀ {j : Nat} {d : D}, ((backE [] 0 ε ε2).set i .no)[j]? = some (.own d) → j ≠ i ∧ ε2[j]? = some (.own d) ∧ flatO d = true := fun {j d} e => by
    rcases get e with h | ⟨hj, h⟩
    · cases h
    · rcases backE_get [] 0 j ε ε2 _ h with ⟨_, z, _⟩ | z | ⟨_, _, _, z⟩ | ⟨d0, d1, z, q1, q2, _, q4⟩
      · cases z
      · cases z
      · simp at z
      · cases z; exact ⟨hj, q2, q4⟩
  subst h3
  refine ⟨fun a w e => ?_, by rw [List.length_set, hbl, ← hl]; exact k2.len, fun j d e => ?_, fun j d e => ?_, fun j1 j2 d1 d2 a e1 e2 s1 s2 => k2.sep j1 j2 d1 d2 a (own e1).2.1 (own e2).2.1 s1 s2⟩
  · have hab : a ≠ b := fun z => by subst z; rw [hb] at e; cases e
    rw [upd_ne hab]; exact k2.sub _ _ (s _ _ e)
  · rcases get e with h | ⟨hj, h⟩
    · cases h
    · rcases backE_get [] 0 j ε ε2 _ h with ⟨d', z, q⟩ | z | ⟨_, z, _⟩ | ⟨_, _, z, _⟩
      · cases z
        obtain ⟨v, e1, r⟩ := k.fz j d q
        exact ⟨v, by rw [hσ j hj]; exact e1, r⟩
      · cases z
      · cases z
      · cases z
  · obtain ⟨hj, h2, hf⟩ := own e
    obtain ⟨a, o, s1, f1, g1, r1⟩ := k2.own j d h2
    have hab : a ≠ b := fun z => by subst z; exact hb2 f1
    refine ⟨a, o, s1, ?_, by rw [upd_ne hab]; exact g1, flatO_rp hf r1⟩
    cases hF : F a with
    | none => rfl
    | some w => rw [s _ _ hF] at f1; cases f1
theorem shrink_own {ε ε2 : En} {σ2 : L2.St} {i : Nat} {a : Addr} (h : OwnAt σ2 ((backE [] 0 ε ε2).set i .no) a) : OwnAt σ2 ε2 a := by
  obtain ⟨j, d, e, s⟩ := h
  by_cases hj : i = j
  · subst hj
    by_cases hi : i < (backE [] 0 ε ε2).length
    · rw [List.getElem?_set_self hi] at e; cases e
    · rw [List.getElem?_eq_none (by rw [List.length_set]; omega)] at e; cases e
  · rw [List.getElem?_set_ne hj] at e
    rcases backE_get [] 0 j ε ε2 _ e with ⟨_, z, _⟩ | z | ⟨_, _, _, z⟩ | ⟨d0, d1, z, q1, q2, _, q4⟩
    · cases z
    · cases z
    · simp at z
    · cases z; exact ⟨j, _, q2, s⟩
end
section
variable {X : Cx} {T : Tab} {W : WX} {e : Expr} {f : En → O R} {g2 g4 : En → O Fl} {P : List Nat} {S2 : Stmt} {rest : List Stmt} {pos epos cpos apos sp : Pos}
theorem dss_fresh {i n : Nat} {js : List Nat} {x : Str} {pos' px : Pos} {c0 c1 : Nat} {q0 q1 : Pos} (hN : X.N.Nodup) (hn : X.N.length = n) (he : DE X T W e f) (hx : PE X (.Name x px) (tVar i)) (h2 : DS X T W (List.range n) S2 g2) (h4 : DSs X T W P rest g4)
    (hi : X.N[i]? = some x := by rfl) (hL : Loc X.env.scope x := by first | exact Or.inl rfl | exact Or.inr rfl) (hP : i ∉ P := by decide) (hs : swapsWith e (some (.Name x pos')) pos.line X.env = pure false := by rfl)
    (hf : X.fn x = true ∨ X.env.scope.names.lookup x = some .local := by first | exact .inl rfl | exact .inr rfl)
    (hbase : attributeBase (.Subscript (.Name x px) (.Constant (.int 0) c0 q0) sp) "append" X.env (eval (.Subscript (.Name x px) (.Constant (.int 0) c0 q0) sp) X.env) = eval (.Subscript (.Name x px) (.Constant (.int 0) c0 q0) sp) X.env := by rfl)
    (hfew : ((backTo cpos (starEach [.Constant (.int 0) c1 q1] X.env)).all (fun x => !x.1) && (backToKw cpos (keywordEach [] X.env)).all (fun x => x.1.isSome)
      && decide (([.Constant (.int 0) c1 q1] : List Expr).length + ([] : List Keyword).length + (if ([] : List Keyword).isEmpty then 0 else 1) < 30)) = true := by rfl)
    (hline : (apos.endLine == cpos.line) = true := by rfl) (hst : starEach [.Constant (.int 0) c1 q1] X.env = (false, eval (.Constant (.int 0) c1 q1) X.env) :: starEach [] X.env := by rfl) (hplain : (backTo cpos (starEach [] X.env)).any (·.1) = false := by rfl)
    (hs3 : swapsWith (.Call (.Attribute (.Subscript (.Name x px) (.Constant (.int 0) c0 q0) sp) "append" apos) [.Constant (.int 0) c1 q1] [] cpos) none epos.line X.env = pure false := by rfl) :
    DSs X T W P (.Assign [.Name x pos'] e pos :: S2 :: .Expr (.Call (.Attribute (.Subscript (.Name x px) (.Constant (.int 0) c0 q0) sp) "append" apos) [.Constant (.int 0) c1 q1] [] cpos) epos :: rest) (dFresh i n js f g2 g4) := by
  have h3 := ps_expr (pos := epos) (pe_bm PySem.F.plainAttrs_list PySem.F.slot_list_append PySem.F.type_list_append (mt_append (X := X)) (pe_ix ix_seq hx (pe_int (i := 0) (j := c0) (pos := q0)) (by intro _ _; rfl)) (pa_cons (pe_int (i := 0) (j := c1) (pos := q1)) pa_nil hst) hbase hfew hline hst hplain) hs3
  refine PSs.imp (pss_cons (ps_set hN hi hL he hs hf) (pss_cons h2 (pss_cons h3 h4))) fun D σ H q => ?_
  obtain ⟨F, ε, k, p⟩ := q
  unfold dFresh vFresh at p
  -- the call, from what is left of the slots
  refine ⟨tupF F, keepFz js 0 ε, keep_ok js k, ?_⟩
  cases ef : f (keepFz js 0 ε) with
  | bad => simp only [ef] at p; exact p.elim
  | exn c ε' => simp only [ef] at p; exact p.elim
  | ok r ε' =>
    simp only [ef] at p
    split at p
    · rename_i r0 ds _ hh
      cases hh
      split at p
      · rename_i hc
        obtain ⟨hr0, hεn, hin⟩ := hc
        intro F' H' k' x' v hv hnew
        obtain ⟨a0, o, rfl, f0, g0, ro, _⟩ := hv
        obtain ⟨vs, rfl, hr⟩ := rpO_lst.mp ro
        obtain ⟨v0, us, rfl, hv0, hus⟩ := rps_cons.mp hr
        obtain ⟨b, ws, rfl, hb, hws⟩ := rp_fl.mp hv0
        have ha0 : H a0 = none := hnew a0 (by simp [newA])
        have sH : Same H H' := fun a u e => x'.hk a u e (keep_noown js)
        have sF : Same F H' := k.sub.trans sH
        have hbH : H b = none := by
          rcases x'.fn b (by rw [hb]; simp) with z | z | z
          · exfalso
            cases hz : tupF F b with
            | none => exact z hz
            | some w =>
              have := x'.fs b w hz
              rw [hb] at this
              cases this
              exact tupF_lst hz
          · exact z
          · exact absurd z (keep_noown js)
        have hFb : F b = none := by
          cases hz : F b with
          | none => rfl
          | some w => rw [k.sub _ _ hz] at hbH; cases hbH
        have hFa : F a0 = none := by
          cases hz : F a0 with
          | none => rfl
          | some w => rw [k.sub _ _ hz] at ha0; cases ha0
        -- all that is known together
        have frJ : ∀ a, joinF F F' a ≠ none → F a ≠ none ∨ H a = none := fun a ha => by
          rcases joinF_new ha with z | z
          · exact .inl z
          · rcases x'.fn a z with z | z | z
            · left
              cases hz : tupF F a with
              | none => exact absurd hz z
              | some w => rw [tupF_same F a w hz]; simp
            · exact .inr z
            · exact absurd z (keep_noown js)
        have k1 : Ok X.K T (joinF F F') H' σ ε := ok_grow k (joinF_l F F') (joinF_sub sF k'.sub) sH frJ
        have x1 : Ext F H σ ε (joinF F F') H' σ ε := Ext.refl.grow (joinF_l F F') sH frJ
        have sR : Same F' (joinF F F') := joinF_r sF k'.sub
        have no0 : ¬ OwnAt σ ε a0 := not_own_fresh k ha0
        have fJ : joinF F F' a0 = none := by
          cases hz : joinF F F' a0 with
          | none => rfl
          | some w =>
            rcases joinF_new (by rw [hz]; simp) with z | z
            · exact absurd hFa z
            · exact absurd f0 z
        have k1' : Ok X.K T (upd (joinF F F') a0 (.lst (.ref b :: us))) H' σ ε := ok_freeze k1 fJ g0 no0
        have x1' : Ext F H σ ε (upd (joinF F F') a0 (.lst (.ref b :: us))) H' σ ε := ⟨x1.fs.trans (same_upd fJ), x1.hk, x1.ht, fun c hc => by
          by_cases hca : c = a0
          · subst hca; exact .inr (.inl ha0)
          · rw [upd_ne hca] at hc; exact x1.fn c hc, x1.on⟩
        generalize hF1 : upd (joinF F F') a0 (.lst (.ref b :: us)) = F1 at k1' x1'
        have sR1 : Same F' F1 := by rw [← hF1]; exact sR.trans (same_upd fJ)
        have hF1a : F1 a0 = some (.lst (.ref b :: us)) := by rw [← hF1]; exact upd_same
        have hF1b : F1 b = some (.lst ws) := sR1 _ _ hb
        have rp0 : Rp X.K T F1 (.lst (.lst r0 :: ds.map wk1)) (.ref a0) := rp_lst.mpr ⟨a0, _, rfl, .inl (.inl hF1a), rps_cons.mpr ⟨_, _, rfl, rp_lst.mpr ⟨b, ws, rfl, .inl (.inl hF1b), Rps.mono sR1 _ _ hws⟩, wk1_rps (Rps.mono sR1 _ _ hus)⟩⟩
        have k2 := ok_setF (i := i) k1' rp0
        have x2 := x1'.setF (i := i) (d := .lst (.lst r0 :: ds.map wk1)) (v := .ref a0)
        refine ⟨F1, ε.set i (.fz (.lst (.lst r0 :: ds.map wk1))), k2, ?_⟩
        have hσl : σ.length = n := k.len.trans hεn
        have hPr : ∀ j ∈ P, (σ.set i (some (V.ref a0)))[j]? = σ[j]? := p_set hP
        generalize hε1 : ε.set i (.fz (.lst (.lst r0 :: ds.map wk1))) = ε1 at *
        cases e2 : g2 ε1 with
        | bad => simp only [e2] at p; exact p.elim
        | exn c ε2 => simp only [e2] at p; exact p.elim
        | ok fl ε2 =>
          intro F2 H2 σ2 k3 x3 hP3
          have x4 := x2.trans x3
          have hσ2 : σ2[i]? = some (some (V.ref a0)) := by
            rw [hP3 i (List.mem_range.mpr hin), List.getElem?_set_self (by omega)]
          have hPσ : ε2.length = n → ∀ j, j ≠ i → σ2[j]? = σ[j]? := fun hl2 j hj => by
            by_cases hjn : j < n
            · rw [hP3 j (List.mem_range.mpr hjn), List.getElem?_set_ne (fun z => hj z.symm)]
            · rw [List.getElem?_eq_none (by rw [k3.len]; omega), List.getElem?_eq_none (by omega)]
          cases fl with
          | bk => simp only [e2] at p; exact p.elim
          | ct => simp only [e2] at p; exact p.elim
          | rt r =>
            cases r with
            | fz d =>
              simp only [e2] at p
              split at p
              · rename_i hl2
                intro v hv _
                have hs2 := hPσ hl2
                have hPP : ∀ j ∈ P, σ2[j]? = σ[j]? := fun j hj => hs2 j fun z => hP (z ▸ hj)
                exact p F2 H2 σ2 k3 x4 hPP v hv (by simp [newA])
              · exact p.elim
            | new d => simp only [e2] at p; exact p.elim
            | «at» j => simp only [e2] at p; exact p.elim
          | nx =>
            simp only [e2] at p
            split at p
            · rename_i hl2
              have hs2 := hPσ hl2
              have hF12 : Same F1 F2 := x3.fs
              have h2a : H2 a0 = some (.lst (.ref b :: us)) := k3.sub _ _ (hF12 _ _ hF1a)
              have h2b : H2 b = some (.lst ws) := k3.sub _ _ (hF12 _ _ hF1b)
              have hba : b ≠ a0 := fun z => by
                subst z
                rw [f0] at hb; cases hb
              refine ⟨.ref a0, hσ2, .inl ⟨a0, _, 0, .ref b, rfl, rfl, .inl (.inl h2a), (by unfold atI ixN; simp), .inl ⟨rfl, ws, .inl (.inl h2b)⟩, b, ws, .int 0, rfl, rfl, h2b, ?_, ?_⟩⟩
              · rw [hws.length, sizeLine_eq]; omega
              · have sF2 : Same F F2 := by
                  refine Same.trans ?_ hF12
                  rw [← hF1]
                  exact (joinF_l F F').trans (same_upd fJ)
                have k5 := shrink (i := i) (b := b) (u := .lst (ws ++ [.int 0])) k k3 (hl2.trans hεn.symm) sF2 hs2 hFb (by rw [hF12 _ _ hF1b]; simp) rfl
                have x5 : Ext F H σ ε F (upd H2 b (.lst (ws ++ [.int 0]))) σ2 ((backE [] 0 ε ε2).set i .no) := by
                  refine ⟨Same.refl _, fun c u e nn => ?_, fun c e => ?_, fun c e => .inl e, fun c e => x4.on c (shrink_own e)⟩
                  · have hcb : c ≠ b := fun z => by subst z; rw [hbH] at e; cases e
                    rw [upd_ne hcb]; exact x4.hk c u e nn
                  · by_cases hcb : c = b
                    · subst hcb; rw [upd_same] at e; cases e
                    · rw [upd_ne hcb] at e; exact x4.ht c e
                have hPP : ∀ j ∈ P, σ2[j]? = σ[j]? := fun j hj => hs2 j fun z => hP (z ▸ hj)
                exact ⟨F, _, k5, (Ps.rebase p x5 hPP).mono fun a ε' F' H' σ' _ _ _ s => s.imp (fun a ha => x5.ht a ha) (fun _ z => z) (fun _ z => z) (fun _ z => z) (fun _ z => z)⟩
            · exact p.elim
      · exact p.elim
    · exact p.elim
end
end DL

/-! DL42: sorted(set(a list of pairs)); a <= b < c < d as a test -/
namespace DL
open PySem PySem.Spec PyProof.Rows L2
/-! ### sorted(set(pairs)) of pairs that ascend -/
def toTP : List D → Option (List (Int × Int))
  | [] => some []
  | .tup [.int i, .int j] :: r => (toTP r).map ((i, j) :: ·)
  | _ :: _ => none
def ascB : List (Int × Int) → Bool
  | a :: b :: r => decide (cd2 a < cd2 b) && ascB (b :: r)
  | _ => true
theorem ascB_pw : ∀ {l : List (Int × Int)}, ascB l = true → l.Pairwise fun a b => cd2 a < cd2 b
  | [], _ => .nil
  | [a], _ => List.pairwise_singleton _ _
  | a :: b :: r, h => by
    unfold ascB at h
    simp only [Bool.and_eq_true, decide_eq_true_eq] at h
    have ih := ascB_pw h.2
    refine List.pairwise_cons.mpr ⟨fun q hq => ?_, ih⟩
    rcases List.mem_cons.mp hq with e | hq
    · rw [e]; exact h.1
    · exact Int.lt_trans h.1 ((List.pairwise_cons.mp ih).1 q hq)
theorem toTP_ks {K : PySem.W.Frag} {T : Tab} {F : Hp} : ∀ {ds : List D} {l : List (Int × Int)} {vs : List V}, toTP ds = some l → Rps K T F ds vs →
    ∃ ks : List (Addr × List Int), vs = ks.map (fun p => V.ref p.1) ∧ ks.map (·.2) = l.map (fun q => [q.1, q.2]) ∧ ∀ p ∈ ks, SqN K F p.1 (p.2.map V.int)
  | [], l, vs, e, h => by
    cases e
    cases vs with
    | nil => exact ⟨[], rfl, rfl, fun _ z => nomatch z⟩
    | cons v r => exact absurd h.length (by simp)
  | d :: r, l, vs, e, h => by
    unfold toTP at e
    split at e
    · rename_i h0; cases h0
    · rename_i i j r' h0
      cases h0
      cases e1 : toTP r with
      | none => rw [e1] at e; cases e
      | some m =>
        rw [e1] at e
        cases e
        obtain ⟨v, us, rfl, hv, hus⟩ := rps_cons.mp h
        obtain ⟨ks, rfl, h2, h3⟩ := toTP_ks e1 hus
        obtain ⟨a, ws, rfl, hq, hw⟩ := rp_tup.mp hv
        have : ws = [i, j].map V.int := rps_ints (ds := [.int i, .int j]) (by rfl) hw
        rw [this] at hq
        refine ⟨(a, [i, j]) :: ks, rfl, by rw [List.map_cons, List.map_cons, h2], fun p hp => ?_⟩
        rcases List.mem_cons.mp hp with z | hp
        · rw [z]; exact hq
        · exact h3 p hp
    · cases e
theorem toTP_rps {K : PySem.W.Frag} {T : Tab} {F : Hp} : ∀ {ds : List D} {l : List (Int × Int)} {ks : List (Addr × List Int)}, toTP ds = some l → ks.map (·.2) = l.map (fun q => [q.1, q.2]) → (∀ p ∈ ks, SqN K F p.1 (p.2.map V.int)) →
    Rps K T F ds (ks.map fun p => V.ref p.1)
  | [], l, ks, e, h, _ => by
    cases e
    cases ks with
    | nil => exact (Rps.ints [] []).mpr rfl
    | cons p r => cases h
  | d :: r, l, ks, e, h, hk => by
    unfold toTP at e
    split at e
    · rename_i h0; cases h0
    · rename_i i j r' h0
      cases h0
      cases e1 : toTP r with
      | none => rw [e1] at e; cases e
      | some m =>
        rw [e1] at e
        cases e
        cases ks with
        | nil => cases h
        | cons p ks =>
          rw [List.map_cons, List.map_cons] at h
          injection h with h1 h2
          refine rps_cons.mpr ⟨_, _, rfl, rp_tup.mpr ⟨p.1, p.2.map V.int, rfl, hk p (List.mem_cons_self ..), ?_⟩, toTP_rps e1 h2 fun q hq => hk q (List.mem_cons_of_mem _ hq)⟩
          rw [h1]
          exact (Rps.ints [i, j] _).mpr rfl
    · cases e
section
variable {X : Cx} {T : Tab} {W : WX} {a : Expr} {fa : En → O R} {pos p p2 q : Pos}
def vSrtST (ε : En) (r : R) : O R :=
  match res ε r with
  | some (.lst ds) => match toTP ds with
    | some l => if (decide (l.length < 64) && bdB l && ascB l) = true then .ok (.new (.lst ds)) ε else .bad
    | none => .bad
  | _ => .bad
def dSrtST (f : En → O R) : En → O R := fun ε => (f ε).bind fun r ε1 => vSrtST ε1 r
theorem cd2_code (q : Int × Int) : TS.code 1000 [q.1, q.2] = cd2 q := by
  unfold TS.code TS.code TS.code cd2
  simp
theorem de_srtST (hc : X.calm = true) (hu : X.A.units + 64 < cLine) (hg : Gl X "sorted") (hm : X.mg "sorted" = none) (hg2 : Gl X "set") (hm2 : X.mg "set" = none) (ha : DE X T W a fa)
    (na : starEach [a] X.env = (false, eval a X.env) :: starEach [] X.env := by rfl) : DE X T W (.Call (.Name "sorted" p) [.Call (.Name "set" p2) [a] [] q] [] pos) (dSrtST fa) := by
  have h1 := pe_callTy (pos := q) (p := p2) (cr_setOfT hc hu) hg2 hm2 (by decide +kernel) (pa_cons ha pa_nil na) (by decide) (by decide) na rfl
  have h2 := pe_callB (pos := pos) (p := p) (cr_sortedT hc) hg hm (by decide +kernel) (pa_cons h1 pa_nil rfl) (by decide) (by decide) rfl rfl
  refine PE.imp h2 fun σ H Q q => ?_
  obtain ⟨F, ε, k, q⟩ := q
  show tD X.K T W fa σ H _
  refine tD_use (g := fun r ε1 => vSrtST ε1 r) k Ext.refl q fun v F1 H1 r ε1 k1 _ x1 q1 n1 p1 => ?_
  unfold vSrtST at p1
  split at p1
  · rename_i ds e1
    cases e2 : toTP ds with
    | none => simp only [e2] at p1; exact p1.elim
    | some l =>
      simp only [e2] at p1
      by_cases hl : (decide (l.length < 64) && bdB l && ascB l) = true
      · rw [if_pos hl] at p1
        simp only [Bool.and_eq_true, decide_eq_true_eq] at hl
        obtain ⟨⟨hl1, hl2⟩, hl3⟩ := hl
        obtain ⟨b, us, rfl, hq, hr⟩ := res_rpi k1 q1 e1
        obtain ⟨ks, rfl, hk2, hk3⟩ := toTP_ks e2 hr
        have hkl : ks.length = l.length := by simpa using congrArg List.length hk2
        have hin : ∀ p ∈ ks, ∃ q ∈ l, p.2 = [q.1, q.2] := fun p hp => by
          have : p.2 ∈ l.map (fun q => [q.1, q.2]) := by rw [← hk2]; exact List.mem_map_of_mem hp
          obtain ⟨q, hq, e⟩ := List.mem_map.mp this
          exact ⟨q, hq, e.symm⟩
        refine ⟨b, ks, rfl, hq, fun p hp => ((hk3 p hp).mono k1.sub).t, by omega, fun c L hnc hL1 hL2 => ?_⟩
        have s1 : Same H1 (upd H1 c (SetTO X.prog X.w c L)) := same_upd hnc
        refine ⟨c, L, 2, 1000, rfl, upd_same, fun p hp => (((hk3 p (hL1 p hp)).mono k1.sub).mono s1).t, by decide, fun p hp => ?_, fun L' d pm nd few pw hd => ?_⟩
        · obtain ⟨q, hq, e⟩ := hin p (hL1 p hp)
          obtain ⟨b1, b2⟩ := bdB_of hl2 q hq
          rw [e]
          refine ⟨rfl, fun m hm => ?_⟩
          rcases List.mem_cons.mp hm with z | hm
          · rw [z]; exact b1
          · rcases List.mem_cons.mp hm with z | hm
            · rw [z]; exact b2
            · exact nomatch hm
        · have hL' : ∀ p ∈ L', p ∈ ks := fun p hp => hL1 p (pm.mem_iff.mp hp)
          have hpr : ∀ p ∈ L', p.2 = [(pr2 p.2).1, (pr2 p.2).2] ∧ pr2 p.2 ∈ l := fun p hp => by
            obtain ⟨q, hq, e⟩ := hin p (hL' p hp)
            rw [e]; exact ⟨rfl, hq⟩
          have em : L'.map (·.2) = (L'.map fun p => pr2 p.2).map fun q => [q.1, q.2] := by
            rw [List.map_map]
            exact List.map_congr_left fun p hp => (hpr p hp).1
          have nl : l.Nodup := (ascB_pw hl3).imp fun h z => by rw [z] at h; omega
          have nM : (L'.map fun p => pr2 p.2).Nodup := by
            rw [em] at nd
            exact List.Pairwise.of_map _ (fun _ _ h z => h (by rw [z])) nd
          have pM : (L'.map fun p => pr2 p.2).Perm l := (List.perm_ext_iff_of_nodup nM nl).mpr fun q => ⟨fun h => by
            obtain ⟨p, hp, rfl⟩ := List.mem_map.mp h
            exact (hpr p hp).2, fun h => by
            have h1 : [q.1, q.2] ∈ ks.map (·.2) := by rw [hk2]; exact List.mem_map_of_mem (f := fun q : Int × Int => [q.1, q.2]) h
            obtain ⟨p, hp, e⟩ := List.mem_map.mp h1
            have h2 := hL2 p hp
            rw [e] at h2
            obtain ⟨p', hp', e'⟩ := List.mem_map.mp h2
            refine List.mem_map.mpr ⟨p', pm.mem_iff.mpr hp', ?_⟩
            show pr2 p'.2 = q
            rw [e']; rfl⟩
          have hM : (L'.map fun p => pr2 p.2) = l := by
            have b := bdB_of hl2
            rw [srt2_of pM ?_ fun q hq => b q (pM.mem_iff.mp hq), ← srt2_of (List.Perm.refl l) ((ascB_pw hl3).imp fun h => Int.le_of_lt h) b]
            rw [List.pairwise_map]
            refine List.Pairwise.imp_of_mem (fun {x y} hx hy h => ?_) pw
            have := h
            rw [(hpr x hx).1, (hpr y hy).1, cd2_code, cd2_code] at this
            exact this
          have hds : Rps X.K T F1 ds (L'.map fun p => V.ref p.1) := toTP_rps e2 (by rw [em, hM]) fun p hp => hk3 p (hL' p hp)
          exact SE.new (ok_alloc k1 hnc) (x1.alloc hnc) p1 hd (rpO_lst.mpr ⟨_, rfl, hds⟩)
      · rw [if_neg hl] at p1; exact p1.elim
  · exact p1.elim
end
/-! ### a op b op' c op'' d, as a test -/
section
variable {X : Cx} {T : Tab} {W : WX} {a b c d : Expr} {fa fb fc fd : En → O R} {ta tb tc td : TE} {pos : Pos}
def tCh3 (r r' r'' : R2) (ta tb tc td : TE) : TE := fun σ H Q => ta σ H fun x H1 => tb σ H1 fun y H2 => r x y H2 fun z H3 => ∃ k, z = .bl k ∧
  (if k = true then tc σ H3 fun w H4 => r' y w H4 fun z' H5 => ∃ k', z' = .bl k' ∧ (if k' = true then td σ H5 fun u H6 => r'' w u H6 Q else Q (.bl false) H5) else Q (.bl false) H3)
theorem pt_chain3 {op op' op'' : CmpOp} {r r' r'' : R2} (ho : OpR X (compareOp op) r) (ho' : OpR X (compareOp op') r') (ho'' : OpR X (compareOp op'') r'') (ha : PE X a ta) (hb : PE X b tb) (hc : PE X c tc) (hd : PE X d td)
    (hm : lastMarks [op, op', op''] [b, c, d] = false := by with_unfolding_all rfl) : PT X (.Compare a [op, op', op''] [b, c, d] pos) (tTest (tCh3 r r' r'' ta tb tc td)) := by
  refine ⟨fun pins s σ H Q I h => ?_⟩
  refine isTrue_chain (thn (ha.run pins s σ H _ I h) fun v s1 ⟨x, H1, I1, r1, q1⟩ => test_link (thn (hb.run pins s1 σ H1 _ I1 q1) fun u s2 ⟨y, H2, I2, r2, q2⟩ =>
    thn (ho pins s2 σ H2 x y v u _ I2 r1 r2 q2) fun d s3 ⟨z, H3, I3, r3, k, e, q3⟩ => ?_)) hm
  subst e
  cases r3
  refine wpAny_truthy_bool ?_
  cases k with
  | false =>
    obtain ⟨k', e', q'⟩ := q3
    cases e'
    exact ite_ff ⟨H3, I3, q'⟩
  | true =>
    refine ite_tt (test_link (thn (hc.run pins s3 σ H3 _ I3 q3) fun w' s4 ⟨z', H4, I4, r4, q4⟩ => thn (ho' pins s4 σ H4 y z' u w' _ I4 r2 r4 q4) fun d' s5 ⟨z2, H5, I5, r5, k2, e2, q5⟩ => ?_))
    subst e2
    cases r5
    refine wpAny_truthy_bool ?_
    cases k2 with
    | false =>
      obtain ⟨k', e', q'⟩ := q5
      cases e'
      exact ite_ff ⟨H5, I5, q'⟩
    | true =>
      refine ite_tt (test_last (thn (hd.run pins s5 σ H5 _ I5 q5) fun u' s6 ⟨z3, H6, I6, r6, q6⟩ => thn (ho'' pins s6 σ H6 z' z3 w' u' _ I6 r4 r6 q6) fun d2 s7 ⟨z4, H7, I7, r7, k3, e3, q7⟩ => ?_))
      subst e3
      cases r7
      exact wpAny_truthy_bool ⟨H7, I7, q7⟩
def vCh3 (g' g'' : D → D → Option D) (fd : En → O R) (d2 : D) (ε : En) (r : R) : O R :=
  match res ε r with
  | some d3 => if flat d3 then match g' d2 d3 with
    | some (.bl b) => if b = true then (fd ε).bind fun r ε1 => vCh2 g'' d3 ε1 r else .ok (.fz (.bl false)) ε
    | _ => .bad
    else .bad
  | none => .bad
def vChT (g g' g'' : D → D → Option D) (fc fd : En → O R) (ε : En) (r1 r2 : R) : O R :=
  match res ε r1, res ε r2 with
  | some d1, some d2 => if flat d2 then match g d1 d2 with
    | some (.bl b) => if b = true then (fc ε).bind fun r ε1 => vCh3 g' g'' fd d2 ε1 r else .ok (.fz (.bl false)) ε
    | _ => .bad
    else .bad
  | _, _ => .bad
def dCh3 (g g' g'' : D → D → Option D) (fa fb fc fd : En → O R) : En → O R := fun ε => (fa ε).bind fun r1 ε1 => (fb ε1).bind fun r2 ε2 => vChT g g' g'' fc fd ε2 r1 r2
theorem ch3_use {K : PySem.W.Frag} {g g' g'' : D → D → Option D} {r r' r'' : R2} (hg : Op2 K T g r) (hg' : Op2 K T g' r') (hg'' : Op2 K T g'' r'') {σ : L2.St} {H : Hp} {Q : VK} (q : tD K T W (dCh3 g g' g'' fa fb fc fd) σ H Q) :
    tCh3 r r' r'' (tD K T W fa) (tD K T W fb) (tD K T W fc) (tD K T W fd) σ H Q := by
  obtain ⟨F, ε, k, p⟩ := q
  refine two_use (g := fun r1 r2 ε2 => vChT g g' g'' fc fd ε2 r1 r2) k Ext.refl p fun v1 v2 F2 H2 r1 r2 ε2 k2 _ x2 q1 q2 n1 n2 nd p2 => ?_
  unfold vChT at p2
  cases e1 : res ε2 r1 with
  | none => simp only [e1] at p2; exact p2.elim
  | some d1 =>
    cases e2 : res ε2 r2 with
    | none => simp only [e1, e2] at p2; exact p2.elim
    | some d2 =>
      simp only [e1, e2] at p2
      by_cases hf : flat d2 = true
      · rw [if_pos hf] at p2
        have a1 := res_rp k2 q1 e1
        have a2 := res_rp k2 q2 e2
        cases e3 : g d1 d2 with
        | none => simp only [e3] at p2; exact p2.elim
        | some d =>
          cases d with
          | bl bb =>
            refine (hg d1 d2 (.bl bb) v1 v2 H2 _ e3 a1 a2 fun v hv => ⟨bb, rp_bl.mp hv, ?_⟩).2
            cases bb with
            | false =>
              simp only [e3] at p2
              rw [if_neg (by decide)] at p2
              rw [if_neg (by decide)]
              exact SE.flat (d := .bl false) (H' := H2) k2 x2 p2 rfl (rp_bl.mpr rfl)
            | true =>
              simp only [e3] at p2
              rw [if_pos trivial] at p2
              rw [if_pos rfl]
              refine tD_use (g := fun r ε1 => vCh3 g' g'' fd d2 ε1 r) k2 x2 p2 fun v3 F3 H3 r3 ε3 k3 _ x3 q3 n3 p3 => ?_
              unfold vCh3 at p3
              cases e4 : res ε3 r3 with
              | none => simp only [e4] at p3; exact p3.elim
              | some d3 =>
                simp only [e4] at p3
                by_cases hf3 : flat d3 = true
                · rw [if_pos hf3] at p3
                  have a3 := res_rp k3 q3 e4
                  have a2' : Rp K T H3 d2 v2 := flat_rp hf a2
                  cases e5 : g' d2 d3 with
                  | none => simp only [e5] at p3; exact p3.elim
                  | some d =>
                    cases d with
                    | bl bb =>
                      refine (hg' d2 d3 (.bl bb) v2 v3 H3 _ e5 a2' a3 fun v hv => ⟨bb, rp_bl.mp hv, ?_⟩).2
                      cases bb with
                      | false =>
                        simp only [e5] at p3
                        rw [if_neg (by decide)] at p3
                        rw [if_neg (by decide)]
                        exact SE.flat (d := .bl false) (H' := H3) k3 x3 p3 rfl (rp_bl.mpr rfl)
                      | true =>
                        simp only [e5] at p3
                        rw [if_pos trivial] at p3
                        rw [if_pos rfl]
                        refine tD_use (g := fun r ε1 => vCh2 g'' d3 ε1 r) k3 x3 p3 fun v4 F4 H4 r4 ε4 k4 _ x4 q4 n4 p4 => ?_
                        unfold vCh2 at p4
                        cases e6 : res ε4 r4 with
                        | none => simp only [e6] at p4; exact p4.elim
                        | some d4 =>
                          simp only [e6] at p4
                          cases e7 : g'' d3 d4 with
                          | none => simp only [e7] at p4; exact p4.elim
                          | some d =>
                            simp only [e7] at p4
                            have a4 := res_rp k4 q4 e6
                            have a3' : Rp K T H4 d3 v3 := flat_rp hf3 a3
                            have hd := (hg'' d3 d4 d v3 v4 H4 (fun _ _ => True) e7 a3' a4 fun _ _ => trivial).1
                            exact (hg'' d3 d4 d v3 v4 H4 Q e7 a3' a4 fun v hv => SE.flat k4 x4 p4 hd hv).2
                    | _ => simp only [e5] at p3; exact p3.elim
                · rw [if_neg hf3] at p3; exact p3.elim
          | _ => simp only [e3] at p2; exact p2.elim
      · rw [if_neg hf] at p2; exact p2.elim
theorem dt_leltlt (ha : DE X T W a fa) (hb : DE X T W b fb) (hc : DE X T W c fc) (hd : DE X T W d fd) (hm : lastMarks [.LtE, .Lt, .Lt] [b, c, d] = false := by with_unfolding_all rfl) : DT X T W (.Compare a [.LtE, .Lt, .Lt] [b, c, d] pos) (dTst (dCh3 gLe gLt gLt fa fb fc fd)) :=
  PT.imp (pt_chain3 (OpR.of0 op_le) (OpR.of0 op_lt) (OpR.of0 op_lt) ha hb hc hd hm) fun σ H Q q => ch3_use op2_le op2_lt op2_lt (tst_use q)
end
/-! ### a slot locked ahead of some statements -/
section
variable {X : Cx} {T : Tab} {W : WX} {P : List Nat} {st : List Stmt} {g : En → O Fl}
def dLock (l : Nat) (g : En → O Fl) : En → O Fl := fun ε =>
  match ε[l]? with
  | some (.own d) => g (ε.set l (.fz d))
  | _ => g ε
theorem dss_lock (l : Nat) (h : DSs X T W P st g) : DSs X T W P st (dLock l g) := by
  refine PSs.imp h fun D σ H q => ?_
  obtain ⟨F, ε, k, p⟩ := q
  unfold dLock at p
  split at p
  · rename_i d e
    obtain ⟨a, o, s1, f1, g1, r1⟩ := k.own l d e
    have ef : frz ε (.at l) = some (d, ε.set l (.fz d)) := by show (match ε[l]? with | some (.own d) => some (d, ε.set l (.fz d)) | _ => none) = _; rw [e]
    obtain ⟨F2, k2, x2, r2, _⟩ := frz_ok (r := .at l) (v := .ref a) Ext.refl k s1 (by simp [newA]) ef
    exact ⟨F2, _, k2, (Ps.rebase p x2 fun _ _ => rfl).mono fun a ε' F' H' σ' _ _ _ s => s⟩
  · exact ⟨F, ε, k, p⟩
end
end DL

/-! printed by gen.py -/
namespace K11
open PySem PySem.Spec PyProof.Rows L2 DL
def top (i : Nat) : Stmt := PySem.Challenge.pw_strokeholes_k11_results_of_groups.main.body.getD i (.Pass ⟨0, 0, 0, 0⟩)
abbrev s__law_deck : Stmt := top 22
abbrev s__law_pick : Stmt := top 23
abbrev s__law_one : Stmt := top 24
abbrev s__law_scores : Stmt := top 31
abbrev s__law_index : Stmt := top 30
abbrev s__law_match : Stmt := top 32
abbrev s__law_group : Stmt := top 33
abbrev s_is_from : Stmt := top 7
abbrev s_good_index : Stmt := top 9
abbrev s_good_scores : Stmt := top 8
abbrev s_is_group : Stmt := top 16
abbrev s_good_handicaps : Stmt := top 19
abbrev s_sign : Stmt := top 11
abbrev s_at_hole : Stmt := top 10
abbrev s_holes_of : Stmt := top 12
abbrev s_match_of : Stmt := top 18
abbrev s_results : Stmt := top 20
abbrev s_all_halved : Stmt := top 17
abbrev s__law_sort : Stmt := top 25
abbrev s__law_same : Stmt := top 26
abbrev s__law_given : Stmt := top 27
abbrev s__law_points : Stmt := top 28
abbrev s__law_score : Stmt := top 29
abbrev s_law : Stmt := top 34
abbrev N__law_deck : List Str := ["_law_cell", "_law_turn"]
abbrev N__law_pick : List Str := ["_law_deck_here", "_law_limit", "_law_found", "_law_number"]
abbrev N__law_one : List Str := ["_law_deck_here", "_law_some"]
abbrev N__law_scores : List Str := ["_law_deck_here", "_law_count", "_law_wide", "_law_base", "_law_hole"]
abbrev N__law_index : List Str := ["_law_deck_here", "_law_count", "_law_left", "_law_found"]
abbrev N__law_match : List Str := ["_law_deck_here", "_law_few", "_law_many", "_law_count", "_law_wide", "_law_first", "_law_near", "_law_score_here"]
abbrev N__law_group : List Str := ["_law_deck_here", "_law_few", "_law_many", "_law_holes", "_law_first", "_law_second", "_law_index_here", "_law_rows", "_law_near", "_law_score_here"]
abbrev N_is_from : List Str := ["value", "low", "high"]
abbrev N_good_index : List Str := ["count", "value", "one"]
abbrev N_good_scores : List Str := ["value", "score"]
abbrev N_is_group : List Str := ["value", "rows", "index", "row"]
abbrev N_good_handicaps : List Str := ["group", "value", "one"]
abbrev N_sign : List Str := ["number"]
abbrev N_at_hole : List Str := ["count", "place", "strokes"]
abbrev N_holes_of : List Str := ["match", "strokes", "first", "second", "index", "one", "two", "place"]
abbrev N_match_of : List Str := ["group", "one", "other"]
abbrev N_results : List Str := ["group", "handicaps", "found", "count", "one", "row", "other"]
abbrev N_all_halved : List Str := ["group", "count", "one", "other"]
abbrev N__law_sort : List Str := ["_law_thing"]
abbrev N__law_same : List Str := ["_law_told", "_law_due", "_law_k", "_law_part"]
abbrev N__law_given : List Str := ["_law_index_here", "_law_strokes", "_law_found", "_law_more", "_law_k", "_law_hole"]
abbrev N__law_points : List Str := ["_law_match_here", "_law_strokes", "_law_found", "_law_one_here", "_law_two", "_law_more"]
abbrev N__law_score : List Str := ["_law_match_here", "_law_strokes"]
abbrev N_law : List Str := ["_law_script", "_law_cell", "_law_deck_here", "_law_group_here", "_law_rows", "_law_index_here", "_law_shares", "_law_due", "_law_one_here", "_law_share", "_law_told", "_law_wishes", "_law_count", "_law_pairs", "_law_wish", "_law_row", "_law_other", "_law_less"]
structure Md (K : PySem.W.Frag) (mg : Str → Option Value) where
  f__law_deck : Addr
  d__law_deck : FuncData
  F__law_deck : Fun K "_law_deck" "_law_deck" s__law_deck f__law_deck d__law_deck
  b__law_deck : Binds K d__law_deck ["_law_cell", "_law_turn"] []
  g__law_deck : mg "_law_deck" = some (.ref f__law_deck)
  f__law_pick : Addr
  d__law_pick : FuncData
  F__law_pick : Fun K "_law_pick" "_law_pick" s__law_pick f__law_pick d__law_pick
  b__law_pick : Binds K d__law_pick ["_law_deck_here", "_law_limit"] []
  g__law_pick : mg "_law_pick" = some (.ref f__law_pick)
  f__law_one : Addr
  d__law_one : FuncData
  F__law_one : Fun K "_law_one" "_law_one" s__law_one f__law_one d__law_one
  b__law_one : Binds K d__law_one ["_law_deck_here", "_law_some"] []
  g__law_one : mg "_law_one" = some (.ref f__law_one)
  f__law_scores : Addr
  d__law_scores : FuncData
  F__law_scores : Fun K "_law_scores" "_law_scores" s__law_scores f__law_scores d__law_scores
  b__law_scores : Binds K d__law_scores ["_law_deck_here", "_law_count", "_law_wide"] []
  g__law_scores : mg "_law_scores" = some (.ref f__law_scores)
  f__law_index : Addr
  d__law_index : FuncData
  F__law_index : Fun K "_law_index" "_law_index" s__law_index f__law_index d__law_index
  b__law_index : Binds K d__law_index ["_law_deck_here", "_law_count"] []
  g__law_index : mg "_law_index" = some (.ref f__law_index)
  f__law_match : Addr
  d__law_match : FuncData
  F__law_match : Fun K "_law_match" "_law_match" s__law_match f__law_match d__law_match
  b__law_match : Binds K d__law_match ["_law_deck_here", "_law_few", "_law_many"] []
  g__law_match : mg "_law_match" = some (.ref f__law_match)
  f__law_group : Addr
  d__law_group : FuncData
  F__law_group : Fun K "_law_group" "_law_group" s__law_group f__law_group d__law_group
  b__law_group : Binds K d__law_group ["_law_deck_here", "_law_few", "_law_many", "_law_holes"] []
  g__law_group : mg "_law_group" = some (.ref f__law_group)
  f_is_from : Addr
  d_is_from : FuncData
  F_is_from : Fun K "is_from" "is_from" s_is_from f_is_from d_is_from
  b_is_from : Binds K d_is_from ["value", "low", "high"] []
  g_is_from : mg "is_from" = some (.ref f_is_from)
  f_good_index : Addr
  d_good_index : FuncData
  F_good_index : Fun K "good_index" "good_index" s_good_index f_good_index d_good_index
  b_good_index : Binds K d_good_index ["count", "value"] []
  g_good_index : mg "good_index" = some (.ref f_good_index)
  f_good_scores : Addr
  d_good_scores : FuncData
  F_good_scores : Fun K "good_scores" "good_scores" s_good_scores f_good_scores d_good_scores
  b_good_scores : Binds K d_good_scores ["value"] []
  g_good_scores : mg "good_scores" = some (.ref f_good_scores)
  f_is_group : Addr
  d_is_group : FuncData
  F_is_group : Fun K "is_group" "is_group" s_is_group f_is_group d_is_group
  b_is_group : Binds K d_is_group ["value"] []
  g_is_group : mg "is_group" = some (.ref f_is_group)
  f_good_handicaps : Addr
  d_good_handicaps : FuncData
  F_good_handicaps : Fun K "good_handicaps" "good_handicaps" s_good_handicaps f_good_handicaps d_good_handicaps
  b_good_handicaps : Binds K d_good_handicaps ["group", "value"] []
  g_good_handicaps : mg "good_handicaps" = some (.ref f_good_handicaps)
  f_sign : Addr
  d_sign : FuncData
  F_sign : Fun K "sign" "sign" s_sign f_sign d_sign
  b_sign : Binds K d_sign ["number"] []
  g_sign : mg "sign" = some (.ref f_sign)
  f_at_hole : Addr
  d_at_hole : FuncData
  F_at_hole : Fun K "at_hole" "at_hole" s_at_hole f_at_hole d_at_hole
  b_at_hole : Binds K d_at_hole ["count", "place", "strokes"] []
  g_at_hole : mg "at_hole" = some (.ref f_at_hole)
  f_holes_of : Addr
  d_holes_of : FuncData
  F_holes_of : Fun K "holes_of" "holes_of" s_holes_of f_holes_of d_holes_of
  b_holes_of : Binds K d_holes_of ["match", "strokes"] []
  g_holes_of : mg "holes_of" = some (.ref f_holes_of)
  f_match_of : Addr
  d_match_of : FuncData
  F_match_of : Fun K "match_of" "match_of" s_match_of f_match_of d_match_of
  b_match_of : Binds K d_match_of ["group", "one", "other"] []
  g_match_of : mg "match_of" = some (.ref f_match_of)
  f_results : Addr
  d_results : FuncData
  F_results : Fun K "results" "results" s_results f_results d_results
  b_results : Binds K d_results ["group", "handicaps"] []
  g_results : mg "results" = some (.ref f_results)
  f_all_halved : Addr
  d_all_halved : FuncData
  F_all_halved : Fun K "all_halved" "all_halved" s_all_halved f_all_halved d_all_halved
  b_all_halved : Binds K d_all_halved ["group"] []
  g_all_halved : mg "all_halved" = some (.ref f_all_halved)
  f__law_sort : Addr
  d__law_sort : FuncData
  F__law_sort : Fun K "_law_sort" "_law_sort" s__law_sort f__law_sort d__law_sort
  b__law_sort : Binds K d__law_sort ["_law_thing"] []
  g__law_sort : mg "_law_sort" = some (.ref f__law_sort)
  f__law_same : Addr
  d__law_same : FuncData
  F__law_same : Fun K "_law_same" "_law_same" s__law_same f__law_same d__law_same
  b__law_same : Binds K d__law_same ["_law_told", "_law_due"] []
  g__law_same : mg "_law_same" = some (.ref f__law_same)
  f__law_given : Addr
  d__law_given : FuncData
  F__law_given : Fun K "_law_given" "_law_given" s__law_given f__law_given d__law_given
  b__law_given : Binds K d__law_given ["_law_index_here", "_law_strokes"] []
  g__law_given : mg "_law_given" = some (.ref f__law_given)
  f__law_points : Addr
  d__law_points : FuncData
  F__law_points : Fun K "_law_points" "_law_points" s__law_points f__law_points d__law_points
  b__law_points : Binds K d__law_points ["_law_match_here", "_law_strokes"] []
  g__law_points : mg "_law_points" = some (.ref f__law_points)
  f__law_score : Addr
  d__law_score : FuncData
  F__law_score : Fun K "_law_score" "_law_score" s__law_score f__law_score d__law_score
  b__law_score : Binds K d__law_score ["_law_match_here", "_law_strokes"] []
  g__law_score : mg "_law_score" = some (.ref f__law_score)
  f_law : Addr
  d_law : FuncData
  F_law : Fun K "law" "law" s_law f_law d_law
  b_law : Binds K d_law ["_law_script"] []
  g_law : mg "law" = some (.ref f_law)
  t_HIGHEST : Tok
  c_HIGHEST : mg "HIGHEST" = some (.int 15 t_HIGHEST)
  t_MOST_HANDICAP : Tok
  c_MOST_HANDICAP : mg "MOST_HANDICAP" = some (.int 1000 t_MOST_HANDICAP)
  t_MOST_HOLES : Tok
  c_MOST_HOLES : mg "MOST_HOLES" = some (.int 18 t_MOST_HOLES)
  t_MOST_PLAYERS : Tok
  c_MOST_PLAYERS : mg "MOST_PLAYERS" = some (.int 8 t_MOST_PLAYERS)
  n_abs : mg "abs" = none
  n_all : mg "all" = none
  n_bool : mg "bool" = none
  n_enumerate : mg "enumerate" = none
  n_int : mg "int" = none
  n_isinstance : mg "isinstance" = none
  n_len : mg "len" = none
  n_list : mg "list" = none
  n_max : mg "max" = none
  n_min : mg "min" = none
  n_range : mg "range" = none
  n_set : mg "set" = none
  n_sorted : mg "sorted" = none
  n_str : mg "str" = none
  n_sum : mg "sum" = none
  n_tuple : mg "tuple" = none
  n_zip : mg "zip" = none
section
variable {P : Program} {w : World} {K : PySem.W.Frag} {mg : Str → Option Value} {base : Heap} {T : Tab}
def φ__law_deck : En → O R := fnD [0, 1] 0 ((dSeq (dIf (dTst (dOp2 gGe (dVar 0) (dOp2 gPow (dC (.int 10)) (dC (.int 18))))) (dRet (dLst (dCons (dOp2 gSub (dVar 0) (dOp2 gPow (dC (.int 10)) (dC (.int 18)))) (dCons (dOp2 gMod (dVar 0) (dC (.int 2147483579))) (dCons (dVar 1) dNil))))) dSkip)
  (dRet (dLst (dCons (dC (.int 0)) (dCons (dOp2 gMod (dVar 0) (dC (.int 2147483579))) (dCons (dVar 1) dNil)))))))
theorem sc__law_deck : FnScope N__law_deck ["_law_cell", "_law_turn"] (defScope s__law_deck) := ⟨rfl, rfl, rfl, by decide +kernel, rfl, by decide +kernel, by decide +kernel⟩
theorem ok__law_deck (M : Md K mg) : FnOk P w K mg base (L2.CX P w) 1 M.f__law_deck M.d__law_deck ["_law_cell", "_law_turn"] (spD K T 2 φ__law_deck) := by
  have sc := sc__law_deck
  exact fn_ok (k := 0) (Pr := [0, 1]) 2 0 M.F__law_deck sc rfl rfl fun cdv A outer s H E hr =>
  (dss_cons (ds_if (dt_ge (de_var 0 (pv 0)) (de_pow de_int de_int)) (dss_one (ds_ret (de_lst (da_cons (de_sub (de_var 0 (pv 0)) (de_pow de_int de_int)) (da_cons (de_mod (de_var 0 (pv 0)) de_int) (da_cons (de_var 1 (pv 1)) da_nil)))))) dss_nil)
  (dss_one (ds_ret (de_lst (da_cons de_int (da_cons (de_mod (de_var 0 (pv 0)) de_int) (da_cons (de_var 1 (pv 1)) da_nil)))))))
def φ__law_pick : En → O R := fnD [0, 1] 2 ((dSeq (dIf (dTst (dOp2 gGt (dOpA gIx (dVar 0) (dC (.int 0))) (dC (.int 1)))) (dSeq (dSet 2 (dOp2 gMod (dOpA gIx (dVar 0) (dC (.int 0))) (dVar 1)))
  (dSeq (dAsg (gSubL 0 (dC (.int 0))) (dOp2 gFdiv (dOpA gIx (dVar 0) (dC (.int 0))) (dVar 1)))
  (dRet (dVar 2)))) dSkip)
  (dSeq (dAsg (gSubL 0 (dC (.int 2))) (dOpA gAdd (dOpA gIx (dVar 0) (dC (.int 2))) (dC (.int 1))))
  (dSeq (dSet 3 (dOp2 gMod (dOp2 gPow (dOpA gAdd (dOpA gIx (dVar 0) (dC (.int 1))) (dMul (dC (.int 15485867)) (dOpA gIx (dVar 0) (dC (.int 2))))) (dC (.int 5))) (dC (.int 2147483647))))
  (dSeq (dSet 2 (dOp2 gFdiv (dOp2 gMod (dOp2 gPow (dOpA gAdd (dVar 3) (dMul (dC (.int 7919)) (dOpA gIx (dVar 0) (dC (.int 2))))) (dC (.int 3))) (dC (.int 2147483629))) (dC (.int 32))))
  (dSeq (dIf (dTst (dOp2 gGt (dVar 1) (dC (.int 1000000)))) (dRet (dOp2 gMod (dOpA gAdd (dMul (dVar 2) (dC (.int 2147483563))) (dVar 3)) (dVar 1))) dSkip)
  (dRet (dOp2 gMod (dVar 2) (dVar 1)))))))))
theorem sc__law_pick : FnScope N__law_pick ["_law_deck_here", "_law_limit"] (defScope s__law_pick) := ⟨rfl, rfl, rfl, by decide +kernel, rfl, by decide +kernel, by decide +kernel⟩
theorem ok__law_pick (M : Md K mg) : FnOk P w K mg base (L2.CX P w) 1 M.f__law_pick M.d__law_pick ["_law_deck_here", "_law_limit"] (spD K T 2 φ__law_pick) := by
  have sc := sc__law_pick
  exact fn_ok (k := 0) (Pr := [0, 1]) 2 2 M.F__law_pick sc rfl rfl fun cdv A outer s H E hr =>
  (dss_cons (ds_if (dt_gt (de_ix (de_var 0 (pv 0)) de_int) de_int) (dss_cons (ds_set (i := 2) sc.nd (de_mod (de_ix (de_var 0 (pv 0)) de_int) (de_var 1 (pv 1))))
  (dss_cons (ds_asg (de_fdiv (de_ix (de_var 0 (pv 0)) de_int) (de_var 1 (pv 1))) (dg_subL (W := W0) 0 (pv 0) de_int))
  (dss_one (ds_ret (de_var 2 (pv 2)))))) dss_nil)
  (dss_cons (ds_asg (de_add (de_ix (de_var 0 (pv 0)) de_int) de_int) (dg_subL (W := W0) 0 (pv 0) de_int))
  (dss_cons (ds_set (i := 3) sc.nd (de_mod (de_pow (de_add (de_ix (de_var 0 (pv 0)) de_int) (de_mul de_int (de_ix (de_var 0 (pv 0)) de_int))) de_int) de_int))
  (dss_cons (ds_set (i := 2) sc.nd (de_fdiv (de_mod (de_pow (de_add (de_var 3 (pv 3)) (de_mul de_int (de_ix (de_var 0 (pv 0)) de_int))) de_int) de_int) de_int))
  (dss_cons (ds_if (dt_gt (de_var 1 (pv 1)) de_int) (dss_one (ds_ret (de_mod (de_add (de_mul (de_var 2 (pv 2)) de_int) (de_var 3 (pv 3))) (de_var 1 (pv 1))))) dss_nil)
  (dss_one (ds_ret (de_mod (de_var 2 (pv 2)) (de_var 1 (pv 1))))))))))
def φ__law_one : En → O R := fnD [0, 1] 0 ((dRet (dOpA gIx (dVar 1) (dCall φ__law_pick [true, false] (dCons (dVar 0) (dCons (dFn gLen (dCons (dVar 1) dNil)) dNil))))))
theorem sc__law_one : FnScope N__law_one ["_law_deck_here", "_law_some"] (defScope s__law_one) := ⟨rfl, rfl, rfl, by decide +kernel, rfl, by decide +kernel, by decide +kernel⟩
theorem ok__law_one (M : Md K mg) : FnOk P w K mg base (L2.CX P w) 2 M.f__law_one M.d__law_one ["_law_deck_here", "_law_some"] (spD K T 2 φ__law_one) := by
  have sc := sc__law_one
  exact fn_ok (k := 1) (Pr := [0, 1]) 2 0 M.F__law_one sc rfl rfl fun cdv A outer s H E hr =>
  (dss_one (ds_ret (de_ix (de_var 1 (pv 1)) (de_call [true, false] (ok__law_pick M) (hr.mono (by decide)) (by rfl) M.g__law_pick M.F__law_pick.kp M.b__law_pick (takes_of rfl rfl rfl rfl) (da_cons (de_var 0 (pv 0)) (da_cons (de_len (by rfl) M.n_len (da_cons (de_var 1 (pv 1)) da_nil)) da_nil)) (len_cons (len_cons len_nil))))))
def cg__law_scores_1 : D → En → Option En := (gN 4)
def ct__law_scores_1 : En → O Bool := dYes
def ce__law_scores_1 : En → O R := (dOpA gAdd (dVar 3) (dCall φ__law_pick [true, false] (dCons (dVar 0) (dCons (dOpA gAdd (dVar 2) (dC (.int 1))) dNil))))
def φ__law_scores : En → O R := fnD [0, 1, 2] 2 ((dSeq (dSet 3 (dOpA gAdd (dC (.int 1)) (dCall φ__law_pick [true, false] (dCons (dVar 0) (dCons (dOp2 gSub (dC (.int 15)) (dVar 2)) dNil)))))
  (dRet (dFn gTuple (dCons (dLC (dRng1 (dCons (dVar 1) dNil)) cg__law_scores_1 ct__law_scores_1 ce__law_scores_1 [4]) dNil)))))
theorem sc__law_scores : FnScope N__law_scores ["_law_deck_here", "_law_count", "_law_wide"] (defScope s__law_scores) := ⟨rfl, rfl, rfl, by decide +kernel, rfl, by decide +kernel, by decide +kernel⟩
theorem ok__law_scores (M : Md K mg) : FnOk P w K mg base (L2.CX P w) 2 M.f__law_scores M.d__law_scores ["_law_deck_here", "_law_count", "_law_wide"] (spD K T 3 φ__law_scores) := by
  have sc := sc__law_scores
  exact fn_ok (k := 1) (Pr := [0, 1, 2]) 3 2 M.F__law_scores sc rfl rfl fun cdv A outer s H E hr =>
  (dss_cons (ds_set (i := 3) sc.nd (de_add de_int (de_call [true, false] (ok__law_pick M) (hr.mono (by decide)) (by rfl) M.g__law_pick M.F__law_pick.kp M.b__law_pick (takes_of rfl rfl rfl rfl) (da_cons (de_var 0 (pv 0)) (da_cons (de_sub de_int (de_var 2 (pv 2))) da_nil)) (len_cons (len_cons len_nil)))))
  (dss_one (ds_ret (de_tuple (by rfl) M.n_tuple (da_cons (de_lc (own := [("_law_hole", 4)]) rfl sc.nd (di_range1 (by rfl) M.n_range (da_cons (de_var 1 (pv 1)) da_nil)) (blkOk_by (N := N__law_scores) (sc := defScope s__law_scores) (by decide +kernel)) (fun _ _ _ _ _ => (dg_name (i := 4) sc.nd)) (fun _ _ _ _ _ => dts_nil) (fun _ _ _ _ _ => (de_add (de_var 3 (pv 3)) (de_call [true, false] (ok__law_pick M) (hr.mono (by decide)) (by rfl) M.g__law_pick M.F__law_pick.kp M.b__law_pick takes0 (da_cons (de_var 0 (pv 0)) (da_cons (de_add (de_var 2 (pv 2)) de_int) da_nil)) (len_cons (len_cons len_nil)))))) da_nil)))))
def wt__law_index_1 : En → O Bool := (dTst (dOp2 gNe (dVar 2) (dLst dNil)))
def wb__law_index_1 : En → O Fl := (dDrop (dM 3 isL mApp (dCons (dM 2 isL mPopAt (dCons (dCall φ__law_pick [true, false] (dCons (dVar 0) (dCons (dFn gLen (dCons (dVar 2) dNil)) dNil))) dNil)) dNil)))
def φ__law_index : En → O R := fnD [0, 1] 2 ((dSeq (dPar 2 3 (dCons (dLRg (dR2 (dC (.int 1)) (dOpA gAdd (dVar 1) (dC (.int 1))))) (dCons (dLst dNil) dNil)))
  (dSeq (dWhile wt__law_index_1 wb__law_index_1 1000)
  (dRet (dFn gTuple (dCons (dVar 3) dNil))))))
theorem sc__law_index : FnScope N__law_index ["_law_deck_here", "_law_count"] (defScope s__law_index) := ⟨rfl, rfl, rfl, by decide +kernel, rfl, by decide +kernel, by decide +kernel⟩
theorem ok__law_index (M : Md K mg) : FnOk P w K mg base (L2.CX P w) 2 M.f__law_index M.d__law_index ["_law_deck_here", "_law_count"] (spD K T 2 φ__law_index) := by
  have sc := sc__law_index
  exact fn_ok (k := 1) (Pr := [0, 1]) 2 2 M.F__law_index sc rfl rfl fun cdv A outer s H E hr =>
  (dss_cons (ds_par (i := 2) (j := 3) rfl sc.nd (da_cons (de_listRg rfl (by rfl) M.n_list (dr_2 (by rfl) M.n_range de_int (de_add (de_var 1 (pv 1)) de_int))) (da_cons (de_lst da_nil) da_nil)) (by rfl))
  (dss_cons (ds_while 1000 (passes_of rfl) (dt_ne hr.units (de_var 2 (pv 2)) (de_lst da_nil)) (dss_one (ds_expr (de_m (i := 3) (kd := isL) PySem.F.plainAttrs_list PySem.F.slot_list_append PySem.F.type_list_append mt_append mt_app tyL (pv 3) (da_cons (de_m (i := 2) (kd := isL) PySem.F.plainAttrs_list PySem.F.slot_list_pop PySem.F.type_list_pop mt_popAt mt_pAt tyL (pv 2) (da_cons (de_call [true, false] (ok__law_pick M) (hr.mono (by decide)) (by rfl) M.g__law_pick M.F__law_pick.kp M.b__law_pick (takes_of rfl rfl rfl rfl) (da_cons (de_var 0 (pv 0)) (da_cons (de_len (by rfl) M.n_len (da_cons (de_var 2 (pv 2)) da_nil)) da_nil)) (len_cons (len_cons len_nil))) da_nil)) da_nil)))))
  (dss_one (ds_ret (de_tuple (by rfl) M.n_tuple (da_cons (de_var 3 (pv 3)) da_nil))))))
def cg__law_match_1 : D → En → Option En := (gN 7)
def ct__law_match_1 : En → O Bool := dYes
def ce__law_match_1 : En → O R := (dFn gMax2 (dCons (dC (.int 1)) (dCons (dFn gMin2 (dCons (dC (.int 15)) (dCons (dOp2 gSub (dOpA gAdd (dVar 7) (dCall φ__law_pick [true, false] (dCons (dVar 0) (dCons (dC (.int 3)) dNil)))) (dC (.int 1))) dNil))) dNil)))
def φ__law_match : En → O R := fnD [0, 1, 2] 5 ((dSeq (dSet 3 (dOpA gAdd (dVar 1) (dCall φ__law_pick [true, false] (dCons (dVar 0) (dCons (dOpA gAdd (dOp2 gSub (dVar 2) (dVar 1)) (dC (.int 1))) dNil)))))
  (dSeq (dSet 4 (dCall φ__law_one [true, false] (dCons (dVar 0) (dCons (dLst (dCons (dC (.int 1)) (dCons (dC (.int 2)) (dCons (dC (.int 4)) (dCons (dC (.int 14)) dNil))))) dNil))))
  (dSeq (dSet 5 (dCall φ__law_scores [true, false, false] (dCons (dVar 0) (dCons (dVar 3) (dCons (dVar 4) dNil)))))
  (dSeq (dSet 6 (dFn gTuple (dCons (dLC (dSeqI (dVar 5)) cg__law_match_1 ct__law_match_1 ce__law_match_1 [7]) dNil)))
  (dRet (dTup (dCons (dVar 5) (dCons (dCall φ__law_one [true, false] (dCons (dVar 0) (dCons (dLst (dCons (dVar 6) (dCons (dVar 6) (dCons (dCall φ__law_scores [true, false, false] (dCons (dVar 0) (dCons (dVar 3) (dCons (dVar 4) dNil)))) dNil)))) dNil))) (dCons (dCall φ__law_index [true, false] (dCons (dVar 0) (dCons (dVar 3) dNil))) dNil))))))))))
theorem sc__law_match : FnScope N__law_match ["_law_deck_here", "_law_few", "_law_many"] (defScope s__law_match) := ⟨rfl, rfl, rfl, by decide +kernel, rfl, by decide +kernel, by decide +kernel⟩
theorem ok__law_match (M : Md K mg) : FnOk P w K mg base (L2.CX P w) 3 M.f__law_match M.d__law_match ["_law_deck_here", "_law_few", "_law_many"] (spD K T 3 φ__law_match) := by
  have sc := sc__law_match
  exact fn_ok (k := 2) (Pr := [0, 1, 2]) 3 5 M.F__law_match sc rfl rfl fun cdv A outer s H E hr =>
  (dss_cons (ds_set (i := 3) sc.nd (de_add (de_var 1 (pv 1)) (de_call [true, false] (ok__law_pick M) (hr.mono (by decide)) (by rfl) M.g__law_pick M.F__law_pick.kp M.b__law_pick (takes_of rfl rfl rfl rfl) (da_cons (de_var 0 (pv 0)) (da_cons (de_add (de_sub (de_var 2 (pv 2)) (de_var 1 (pv 1))) de_int) da_nil)) (len_cons (len_cons len_nil)))))
  (dss_cons (ds_set (i := 4) sc.nd (de_call [true, false] (ok__law_one M) (hr.mono (by decide)) (by rfl) M.g__law_one M.F__law_one.kp M.b__law_one (takes_of rfl rfl rfl rfl) (da_cons (de_var 0 (pv 0)) (da_cons (de_lst (da_cons de_int (da_cons de_int (da_cons de_int (da_cons de_int da_nil))))) da_nil)) (len_cons (len_cons len_nil))))
  (dss_cons (ds_set (i := 5) sc.nd (de_call [true, false, false] (ok__law_scores M) (hr.mono (by decide)) (by rfl) M.g__law_scores M.F__law_scores.kp M.b__law_scores (takes_of rfl rfl rfl rfl) (da_cons (de_var 0 (pv 0)) (da_cons (de_var 3 (pv 3)) (da_cons (de_var 4 (pv 4)) da_nil))) (len_cons (len_cons (len_cons len_nil)))))
  (dss_cons (ds_set (i := 6) sc.nd (de_tuple (by rfl) M.n_tuple (da_cons (de_lc (own := [("_law_score_here", 7)]) rfl sc.nd (di_seq (de_var 5 (pv 5))) (blkOk_by (N := N__law_match) (sc := defScope s__law_match) (by decide +kernel)) (fun _ _ _ _ _ => (dg_name (i := 7) sc.nd)) (fun _ _ _ _ _ => dts_nil) (fun _ _ _ _ _ => (de_max2 rfl (by rfl) M.n_max (da_cons de_int (da_cons (de_min2 rfl (by rfl) M.n_min (da_cons de_int (da_cons (de_sub (de_add (de_var 7 (pv 7)) (de_call [true, false] (ok__law_pick M) (hr.mono (by decide)) (by rfl) M.g__law_pick M.F__law_pick.kp M.b__law_pick takes0 (da_cons (de_var 0 (pv 0)) (da_cons de_int da_nil)) (len_cons (len_cons len_nil)))) de_int) da_nil))) da_nil))))) da_nil)))
  (dss_one (ds_ret (de_tup (da_cons (de_var 5 (pv 5)) (da_cons (de_call [true, false] (ok__law_one M) (hr.mono (by decide)) (by rfl) M.g__law_one M.F__law_one.kp M.b__law_one (takes_of rfl rfl rfl rfl) (da_cons (de_var 0 (pv 0)) (da_cons (de_lst (da_cons (de_var 6 (pv 6)) (da_cons (de_var 6 (pv 6)) (da_cons (de_call [true, false, false] (ok__law_scores M) (hr.mono (by decide)) (by rfl) M.g__law_scores M.F__law_scores.kp M.b__law_scores (takes_of rfl rfl rfl rfl) (da_cons (de_var 0 (pv 0)) (da_cons (de_var 3 (pv 3)) (da_cons (de_var 4 (pv 4)) da_nil))) (len_cons (len_cons (len_cons len_nil)))) da_nil)))) da_nil)) (len_cons (len_cons len_nil))) (da_cons (de_call [true, false] (ok__law_index M) (hr.mono (by decide)) (by rfl) M.g__law_index M.F__law_index.kp M.b__law_index (takes_of rfl rfl rfl rfl) (da_cons (de_var 0 (pv 0)) (da_cons (de_var 3 (pv 3)) da_nil)) (len_cons (len_cons len_nil))) da_nil))))))))))
def cg__law_group_1 : D → En → Option En := (gN 9)
def ct__law_group_1 : En → O Bool := dYes
def ce__law_group_1 : En → O R := (dFn gMax2 (dCons (dC (.int 1)) (dCons (dFn gMin2 (dCons (dC (.int 15)) (dCons (dOp2 gSub (dOpA gAdd (dVar 9) (dCall φ__law_pick [true, false] (dCons (dVar 0) (dCons (dC (.int 3)) dNil)))) (dC (.int 1))) dNil))) dNil)))
def wt__law_group_1 : En → O Bool := (dOr (dTst (dOp2 gLt (dFn gLen (dCons (dVar 7) dNil)) (dVar 1))) (dAnd (dTst (dOp2 gLt (dFn gLen (dCons (dVar 7) dNil)) (dVar 2))) (dTst (dOp2 gGt (dCall φ__law_pick [true, false] (dCons (dVar 0) (dCons (dC (.int 3)) dNil))) (dC (.int 0))))))
def wb__law_group_1 : En → O Fl := (dSeq (dSet 8 (dLendT [7] (dCall φ__law_one [true, false] (dCons (dVar 0) (dCons (dVar 7) dNil)))))
  (dDrop (dM 7 isL mApp (dCons (dFn gTuple (dCons (dLC (dSeqI (dVar 8)) cg__law_group_1 ct__law_group_1 ce__law_group_1 [9]) dNil)) dNil))))
def φ__law_group : En → O R := fnD [0, 1, 2, 3] 6 ((dSeq (dAsg (gTupD 3 (gCons (gN 4) (gCons (gN 5) (gCons (gN 6) gNil)))) (dCall φ__law_match [true, false, false] (dCons (dVar 0) (dCons (dC (.int 1)) (dCons (dVar 3) dNil)))))
  (dSeq (dSet 7 (dLst (dCons (dVar 4) (dCons (dVar 5) dNil))))
  (dSeq (dWhile wt__law_group_1 wb__law_group_1 1000)
  (dRet (dTup (dCons (dFn gTuple (dCons (dVar 7) dNil)) (dCons (dVar 6) dNil))))))))
theorem sc__law_group : FnScope N__law_group ["_law_deck_here", "_law_few", "_law_many", "_law_holes"] (defScope s__law_group) := ⟨rfl, rfl, rfl, by decide +kernel, rfl, by decide +kernel, by decide +kernel⟩
theorem ok__law_group (M : Md K mg) : FnOk P w K mg base (L2.CX P w) 4 M.f__law_group M.d__law_group ["_law_deck_here", "_law_few", "_law_many", "_law_holes"] (spD K T 4 φ__law_group) := by
  have sc := sc__law_group
  exact fn_ok (k := 3) (Pr := [0, 1, 2, 3]) 4 6 M.F__law_group sc rfl rfl fun cdv A outer s H E hr =>
  (dss_cons (ds_asg (de_call [true, false, false] (ok__law_match M) (hr.mono (by decide)) (by rfl) M.g__law_match M.F__law_match.kp M.b__law_match (takes_of rfl rfl rfl rfl) (da_cons (de_var 0 (pv 0)) (da_cons de_int (da_cons (de_var 3 (pv 3)) da_nil))) (len_cons (len_cons (len_cons len_nil)))) (dg_tup (n := 3) rfl (dgs_cons (dg_name (i := 4) sc.nd) (dgs_cons (dg_name (i := 5) sc.nd) (dgs_cons (dg_name (i := 6) sc.nd) dgs_nil)))))
  (dss_cons (ds_set (i := 7) sc.nd (de_lst (da_cons (de_var 4 (pv 4)) (da_cons (de_var 5 (pv 5)) da_nil))))
  (dss_cons (ds_while 1000 (passes_of rfl) (dt_bool (dw_or (dt_lt (de_len (by rfl) M.n_len (da_cons (de_var 7 (pv 7)) da_nil)) (de_var 1 (pv 1))) (dw_or1 (dt_bool (dw_and (dt_lt (de_len (by rfl) M.n_len (da_cons (de_var 7 (pv 7)) da_nil)) (de_var 2 (pv 2))) (dw_and1 (dt_gt (de_call [true, false] (ok__law_pick M) (hr.mono (by decide)) (by rfl) M.g__law_pick M.F__law_pick.kp M.b__law_pick (takes_of rfl rfl rfl rfl) (da_cons (de_var 0 (pv 0)) (da_cons de_int da_nil)) (len_cons (len_cons len_nil))) de_int))))))) (dss_cons (ds_set (i := 8) sc.nd (de_lendT [7] (de_call [true, false] (ok__law_one M) (hr.mono (by decide)) (by rfl) M.g__law_one M.F__law_one.kp M.b__law_one (takes_of rfl rfl rfl rfl) (da_cons (de_var 0 (pv 0)) (da_cons (de_var 7 (pv 7)) da_nil)) (len_cons (len_cons len_nil)))))
  (dss_one (ds_expr (de_m (i := 7) (kd := isL) PySem.F.plainAttrs_list PySem.F.slot_list_append PySem.F.type_list_append mt_append mt_app tyL (pv 7) (da_cons (de_tuple (by rfl) M.n_tuple (da_cons (de_lc (own := [("_law_score_here", 9)]) rfl sc.nd (di_seq (de_var 8 (pv 8))) (blkOk_by (N := N__law_group) (sc := defScope s__law_group) (by decide +kernel)) (fun _ _ _ _ _ => (dg_name (i := 9) sc.nd)) (fun _ _ _ _ _ => dts_nil) (fun _ _ _ _ _ => (de_max2 rfl (by rfl) M.n_max (da_cons de_int (da_cons (de_min2 rfl (by rfl) M.n_min (da_cons de_int (da_cons (de_sub (de_add (de_var 9 (pv 9)) (de_call [true, false] (ok__law_pick M) (hr.mono (by decide)) (by rfl) M.g__law_pick M.F__law_pick.kp M.b__law_pick takes0 (da_cons (de_var 0 (pv 0)) (da_cons de_int da_nil)) (len_cons (len_cons len_nil)))) de_int) da_nil))) da_nil))))) da_nil)) da_nil))))))
  (dss_one (ds_ret (de_tup (da_cons (de_tuple (by rfl) M.n_tuple (da_cons (de_var 7 (pv 7)) da_nil)) (da_cons (de_var 6 (pv 6)) da_nil))))))))
def φ_is_from : En → O R := fnD [0, 1, 2] 0 ((dRet (dAndV (dFn gIsi5 (dCons (dVar 0) (dCons (dC (.ty "int")) dNil))) (dAndV (dNotV (dFn gIsi5 (dCons (dVar 0) (dCons (dC (.ty "bool")) dNil)))) (dCh gLe gLe (dVar 1) (dVar 0) (dVar 2))))))
theorem sc_is_from : FnScope N_is_from ["value", "low", "high"] (defScope s_is_from) := ⟨rfl, rfl, rfl, by decide +kernel, rfl, by decide +kernel, by decide +kernel⟩
theorem ok_is_from (M : Md K mg) : FnOk P w K mg base (L2.CX P w) 1 M.f_is_from M.d_is_from ["value", "low", "high"] (spD K T 3 φ_is_from) := by
  have sc := sc_is_from
  exact fn_ok (k := 0) (Pr := [0, 1, 2]) 3 0 M.F_is_from sc rfl rfl fun cdv A outer s H E hr =>
  (dss_one (ds_ret (de_and (de_isi (by rfl) M.n_isinstance (da_cons (de_var 0 (pv 0)) (da_cons (de_ty (by rfl) M.n_int) da_nil))) (de_and (de_not (de_isi (by rfl) M.n_isinstance (da_cons (de_var 0 (pv 0)) (da_cons (de_ty (by rfl) M.n_bool) da_nil)))) (de_one (de_lele (de_var 1 (pv 1)) (de_var 0 (pv 0)) (de_var 2 (pv 2))))))))
def φ_good_index : En → O R := fnD [0, 1] 1 ((dSeq (dIf (dOr (dNot (dTru (dFn gIsi5 (dCons (dVar 1) (dCons (dC (.ty "tuple")) dNil))))) (dTst (dOp2 gNe (dFn gLen (dCons (dVar 1) dNil)) (dVar 0)))) (dRet (dC (.bl false))) dSkip)
  (dRet (dAndV (dFn gAll (dCons (dLC (dSeqI (dVar 1)) (gN 2) dYes (dCall φ_is_from [false, false, false] (dCons (dVar 2) (dCons (dC (.int 1)) (dCons (dVar 0) dNil)))) [2]) dNil)) (dOp2 gEq (dLenSet (dVar 1)) (dVar 0))))))
theorem sc_good_index : FnScope N_good_index ["count", "value"] (defScope s_good_index) := ⟨rfl, rfl, rfl, by decide +kernel, rfl, by decide +kernel, by decide +kernel⟩
theorem ok_good_index (M : Md K mg) : FnOk P w K mg base (L2.CX P w) 2 M.f_good_index M.d_good_index ["count", "value"] (spD K T 2 φ_good_index) := by
  have sc := sc_good_index
  exact fn_ok (k := 1) (Pr := [0, 1]) 2 1 M.F_good_index sc rfl rfl fun cdv A outer s H E hr =>
  (dss_cons (ds_if (dt_bool (dw_or (dt_not (dt_tru (de_isi (by rfl) M.n_isinstance (da_cons (de_var 1 (pv 1)) (da_cons (de_ty (by rfl) M.n_tuple) da_nil))))) (dw_or1 (dt_ne hr.units (de_len (by rfl) M.n_len (da_cons (de_var 1 (pv 1)) da_nil)) (de_var 0 (pv 0)))))) (dss_one (ds_ret de_bl)) dss_nil)
  (dss_one (ds_ret (de_and (de_all rfl (by rfl) M.n_all (da_cons (de_lc (own := [("one", 2)]) rfl sc.nd (di_seq (de_var 1 (pv 1))) (blkOk_by (N := N_good_index) (sc := defScope s_good_index) (by decide +kernel)) (fun _ _ _ _ _ => (dg_name (i := 2) sc.nd)) (fun _ _ _ _ _ => dts_nil) (fun _ _ _ _ _ => (de_call [false, false, false] (ok_is_from M) (hr.mono (by decide)) (by rfl) M.g_is_from M.F_is_from.kp M.b_is_from takes0 (da_cons (de_var 2 (pv 2)) (da_cons de_int (da_cons (de_var 0 (pv 0)) da_nil))) (len_cons (len_cons (len_cons len_nil)))))) da_nil)) (de_one (de_eq hr.units (de_lenSet rfl (by rfl) M.n_len (by rfl) M.n_set (de_var 1 (pv 1))) (de_var 0 (pv 0))))))))
def φ_good_scores : En → O R := fnD [0] 1 ((dSeq (dIf (dOr (dNot (dTru (dFn gIsi5 (dCons (dVar 0) (dCons (dC (.ty "tuple")) dNil))))) (dNot (dTst (dCh gLe gLe (dC (.int 1)) (dFn gLen (dCons (dVar 0) dNil)) (dC (.int 18)))))) (dRet (dC (.bl false))) dSkip)
  (dRet (dFn gAll (dCons (dLC (dSeqI (dVar 0)) (gN 1) dYes (dCall φ_is_from [false, false, false] (dCons (dVar 1) (dCons (dC (.int 1)) (dCons (dC (.int 15)) dNil)))) [1]) dNil)))))
theorem sc_good_scores : FnScope N_good_scores ["value"] (defScope s_good_scores) := ⟨rfl, rfl, rfl, by decide +kernel, rfl, by decide +kernel, by decide +kernel⟩
theorem ok_good_scores (M : Md K mg) : FnOk P w K mg base (L2.CX P w) 2 M.f_good_scores M.d_good_scores ["value"] (spD K T 1 φ_good_scores) := by
  have sc := sc_good_scores
  exact fn_ok (k := 1) (Pr := [0]) 1 1 M.F_good_scores sc rfl rfl fun cdv A outer s H E hr =>
  (dss_cons (ds_if (dt_bool (dw_or (dt_not (dt_tru (de_isi (by rfl) M.n_isinstance (da_cons (de_var 0 (pv 0)) (da_cons (de_ty (by rfl) M.n_tuple) da_nil))))) (dw_or1 (dt_not (dt_lele de_int (de_len (by rfl) M.n_len (da_cons (de_var 0 (pv 0)) da_nil)) (de_glob (by rfl) M.c_MOST_HOLES)))))) (dss_one (ds_ret de_bl)) dss_nil)
  (dss_one (ds_ret (de_all rfl (by rfl) M.n_all (da_cons (de_lc (own := [("score", 1)]) rfl sc.nd (di_seq (de_var 0 (pv 0))) (blkOk_by (N := N_good_scores) (sc := defScope s_good_scores) (by decide +kernel)) (fun _ _ _ _ _ => (dg_name (i := 1) sc.nd)) (fun _ _ _ _ _ => dts_nil) (fun _ _ _ _ _ => (de_call [false, false, false] (ok_is_from M) (hr.mono (by decide)) (by rfl) M.g_is_from M.F_is_from.kp M.b_is_from takes0 (da_cons (de_var 1 (pv 1)) (da_cons de_int (da_cons (de_glob (by rfl) M.c_HIGHEST) da_nil))) (len_cons (len_cons (len_cons len_nil)))))) da_nil)))))
def φ_is_group : En → O R := fnD [0] 3 ((dSeq (dIf (dOr (dNot (dTru (dFn gIsi5 (dCons (dVar 0) (dCons (dC (.ty "tuple")) dNil))))) (dOr (dTst (dOp2 gNe (dFn gLen (dCons (dVar 0) dNil)) (dC (.int 2)))) (dNot (dTru (dFn gIsi5 (dCons (dOpA gIx (dVar 0) (dC (.int 0))) (dCons (dC (.ty "tuple")) dNil))))))) (dRet (dC (.bl false))) dSkip)
  (dSeq (dAsg (gTupD 2 (gCons (gN 1) (gCons (gN 2) gNil))) (dVar 0))
  (dSeq (dIf (dOr (dNot (dTst (dCh gLe gLe (dC (.int 2)) (dFn gLen (dCons (dVar 1) dNil)) (dC (.int 8))))) (dNot (dTru (dFn gAll (dCons (dLC (dSeqI (dVar 1)) (gN 3) dYes (dCall φ_good_scores [false] (dCons (dVar 3) dNil)) [3]) dNil))))) (dRet (dC (.bl false))) dSkip)
  (dRet (dAndV (dOp2 gEq (dLenSet (dLC (dSeqI (dVar 1)) (gN 3) dYes (dFn gLen (dCons (dVar 3) dNil)) [3])) (dC (.int 1))) (dCall φ_good_index [false, false] (dCons (dFn gLen (dCons (dOpA gIx (dVar 1) (dC (.int 0))) dNil)) (dCons (dVar 2) dNil)))))))))
theorem sc_is_group : FnScope N_is_group ["value"] (defScope s_is_group) := ⟨rfl, rfl, rfl, by decide +kernel, rfl, by decide +kernel, by decide +kernel⟩
theorem ok_is_group (M : Md K mg) : FnOk P w K mg base (L2.CX P w) 3 M.f_is_group M.d_is_group ["value"] (spD K T 1 φ_is_group) := by
  have sc := sc_is_group
  exact fn_ok (k := 2) (Pr := [0]) 1 3 M.F_is_group sc rfl rfl fun cdv A outer s H E hr =>
  (dss_cons (ds_if (dt_bool (dw_or (dt_not (dt_tru (de_isi (by rfl) M.n_isinstance (da_cons (de_var 0 (pv 0)) (da_cons (de_ty (by rfl) M.n_tuple) da_nil))))) (dw_or (dt_ne hr.units (de_len (by rfl) M.n_len (da_cons (de_var 0 (pv 0)) da_nil)) de_int) (dw_or1 (dt_not (dt_tru (de_isi (by rfl) M.n_isinstance (da_cons (de_ix (de_var 0 (pv 0)) de_int) (da_cons (de_ty (by rfl) M.n_tuple) da_nil))))))))) (dss_one (ds_ret de_bl)) dss_nil)
  (dss_cons (ds_asg (de_var 0 (pv 0)) (dg_tup (n := 2) rfl (dgs_cons (dg_name (i := 1) sc.nd) (dgs_cons (dg_name (i := 2) sc.nd) dgs_nil))))
  (dss_cons (ds_if (dt_bool (dw_or (dt_not (dt_lele de_int (de_len (by rfl) M.n_len (da_cons (de_var 1 (pv 1)) da_nil)) (de_glob (by rfl) M.c_MOST_PLAYERS))) (dw_or1 (dt_not (dt_tru (de_all rfl (by rfl) M.n_all (da_cons (de_lc (own := [("row", 3)]) rfl sc.nd (di_seq (de_var 1 (pv 1))) (blkOk_by (N := N_is_group) (sc := defScope s_is_group) (by decide +kernel)) (fun _ _ _ _ _ => (dg_name (i := 3) sc.nd)) (fun _ _ _ _ _ => dts_nil) (fun _ _ _ _ _ => (de_call [false] (ok_good_scores M) (hr.mono (by decide)) (by rfl) M.g_good_scores M.F_good_scores.kp M.b_good_scores takes0 (da_cons (de_var 3 (pv 3)) da_nil) (len_cons len_nil)))) da_nil))))))) (dss_one (ds_ret de_bl)) dss_nil)
  (dss_one (ds_ret (de_and (de_eq hr.units (de_lenSet rfl (by rfl) M.n_len (by rfl) M.n_set (de_lc (own := [("row", 3)]) rfl sc.nd (di_seq (de_var 1 (pv 1))) (blkOk_by (N := N_is_group) (sc := defScope s_is_group) (by decide +kernel)) (fun _ _ _ _ _ => (dg_name (i := 3) sc.nd)) (fun _ _ _ _ _ => dts_nil) (fun _ _ _ _ _ => (de_len (by rfl) M.n_len (da_cons (de_var 3 (pv 3)) da_nil))))) de_int) (de_one (de_call [false, false] (ok_good_index M) (hr.mono (by decide)) (by rfl) M.g_good_index M.F_good_index.kp M.b_good_index (takes_of rfl rfl rfl rfl) (da_cons (de_len (by rfl) M.n_len (da_cons (de_ix (de_var 1 (pv 1)) de_int) da_nil)) (da_cons (de_var 2 (pv 2)) da_nil)) (len_cons (len_cons len_nil))))))))))
def φ_good_handicaps : En → O R := fnD [0, 1] 1 ((dSeq (dIf (dOr (dNot (dTru (dFn gIsi5 (dCons (dVar 1) (dCons (dC (.ty "tuple")) dNil))))) (dTst (dOp2 gNe (dFn gLen (dCons (dVar 1) dNil)) (dFn gLen (dCons (dOpA gIx (dVar 0) (dC (.int 0))) dNil))))) (dRet (dC (.bl false))) dSkip)
  (dRet (dFn gAll (dCons (dLC (dSeqI (dVar 1)) (gN 2) dYes (dCall φ_is_from [false, false, false] (dCons (dVar 2) (dCons (dUn gNeg (dC (.int 1000))) (dCons (dC (.int 1000)) dNil)))) [2]) dNil)))))
theorem sc_good_handicaps : FnScope N_good_handicaps ["group", "value"] (defScope s_good_handicaps) := ⟨rfl, rfl, rfl, by decide +kernel, rfl, by decide +kernel, by decide +kernel⟩
theorem ok_good_handicaps (M : Md K mg) : FnOk P w K mg base (L2.CX P w) 2 M.f_good_handicaps M.d_good_handicaps ["group", "value"] (spD K T 2 φ_good_handicaps) := by
  have sc := sc_good_handicaps
  exact fn_ok (k := 1) (Pr := [0, 1]) 2 1 M.F_good_handicaps sc rfl rfl fun cdv A outer s H E hr =>
  (dss_cons (ds_if (dt_bool (dw_or (dt_not (dt_tru (de_isi (by rfl) M.n_isinstance (da_cons (de_var 1 (pv 1)) (da_cons (de_ty (by rfl) M.n_tuple) da_nil))))) (dw_or1 (dt_ne hr.units (de_len (by rfl) M.n_len (da_cons (de_var 1 (pv 1)) da_nil)) (de_len (by rfl) M.n_len (da_cons (de_ix (de_var 0 (pv 0)) de_int) da_nil)))))) (dss_one (ds_ret de_bl)) dss_nil)
  (dss_one (ds_ret (de_all rfl (by rfl) M.n_all (da_cons (de_lc (own := [("one", 2)]) rfl sc.nd (di_seq (de_var 1 (pv 1))) (blkOk_by (N := N_good_handicaps) (sc := defScope s_good_handicaps) (by decide +kernel)) (fun _ _ _ _ _ => (dg_name (i := 2) sc.nd)) (fun _ _ _ _ _ => dts_nil) (fun _ _ _ _ _ => (de_call [false, false, false] (ok_is_from M) (hr.mono (by decide)) (by rfl) M.g_is_from M.F_is_from.kp M.b_is_from takes0 (da_cons (de_var 2 (pv 2)) (da_cons (de_neg (de_glob (by rfl) M.c_MOST_HANDICAP)) (da_cons (de_glob (by rfl) M.c_MOST_HANDICAP) da_nil))) (len_cons (len_cons (len_cons len_nil)))))) da_nil)))))
def φ_sign : En → O R := fnD [0] 0 ((dRet (dOp2 gSub (dFn gInt (dCons (dOp2 gGt (dVar 0) (dC (.int 0))) dNil)) (dFn gInt (dCons (dOp2 gLt (dVar 0) (dC (.int 0))) dNil)))))
theorem sc_sign : FnScope N_sign ["number"] (defScope s_sign) := ⟨rfl, rfl, rfl, by decide +kernel, rfl, by decide +kernel, by decide +kernel⟩
theorem ok_sign (M : Md K mg) : FnOk P w K mg base (L2.CX P w) 1 M.f_sign M.d_sign ["number"] (spD K T 1 φ_sign) := by
  have sc := sc_sign
  exact fn_ok (k := 0) (Pr := [0]) 1 0 M.F_sign sc rfl rfl fun cdv A outer s H E hr =>
  (dss_one (ds_ret (de_sub (de_intF (by rfl) M.n_int (da_cons (de_gt (de_var 0 (pv 0)) de_int) da_nil)) (de_intF (by rfl) M.n_int (da_cons (de_lt (de_var 0 (pv 0)) de_int) da_nil)))))
def φ_at_hole : En → O R := fnD [0, 1, 2] 0 ((dSeq (dIf (dTst (dOp2 gLt (dVar 2) (dC (.int 0)))) (dRet (dUn gNeg (dOp2 gFdiv (dOp2 gSub (dOpA gAdd (dUn gNeg (dVar 2)) (dVar 0)) (dVar 1)) (dVar 0)))) dSkip)
  (dRet (dOp2 gFdiv (dOp2 gSub (dOpA gAdd (dVar 2) (dVar 0)) (dVar 1)) (dVar 0)))))
theorem sc_at_hole : FnScope N_at_hole ["count", "place", "strokes"] (defScope s_at_hole) := ⟨rfl, rfl, rfl, by decide +kernel, rfl, by decide +kernel, by decide +kernel⟩
theorem ok_at_hole (M : Md K mg) : FnOk P w K mg base (L2.CX P w) 1 M.f_at_hole M.d_at_hole ["count", "place", "strokes"] (spD K T 3 φ_at_hole) := by
  have sc := sc_at_hole
  exact fn_ok (k := 0) (Pr := [0, 1, 2]) 3 0 M.F_at_hole sc rfl rfl fun cdv A outer s H E hr =>
  (dss_cons (ds_if (dt_lt (de_var 2 (pv 2)) de_int) (dss_one (ds_ret (de_neg (de_fdiv (de_sub (de_add (de_neg (de_var 2 (pv 2))) (de_var 0 (pv 0))) (de_var 1 (pv 1))) (de_var 0 (pv 0)))))) dss_nil)
  (dss_one (ds_ret (de_fdiv (de_sub (de_add (de_var 2 (pv 2)) (de_var 0 (pv 0))) (de_var 1 (pv 1))) (de_var 0 (pv 0))))))
def φ_holes_of : En → O R := fnD [0, 1] 6 ((dSeq (dAsg (gTupD 3 (gCons (gN 2) (gCons (gN 3) (gCons (gN 4) gNil)))) (dVar 0))
  (dRet (dLC (dZip3 (dCons (dVar 2) (dCons (dVar 3) (dCons (dVar 4) dNil)))) (gTupD 3 (gCons (gN 5) (gCons (gN 6) (gCons (gN 7) gNil)))) dYes (dCall φ_sign [false] (dCons (dOpA gAdd (dOp2 gSub (dVar 6) (dVar 5)) (dCall φ_at_hole [false, false, false] (dCons (dFn gLen (dCons (dVar 4) dNil)) (dCons (dVar 7) (dCons (dVar 1) dNil))))) dNil)) [5, 6, 7]))))
theorem sc_holes_of : FnScope N_holes_of ["match", "strokes"] (defScope s_holes_of) := ⟨rfl, rfl, rfl, by decide +kernel, rfl, by decide +kernel, by decide +kernel⟩
theorem ok_holes_of (M : Md K mg) : FnOk P w K mg base (L2.CX P w) 2 M.f_holes_of M.d_holes_of ["match", "strokes"] (spD K T 2 φ_holes_of) := by
  have sc := sc_holes_of
  exact fn_ok (k := 1) (Pr := [0, 1]) 2 6 M.F_holes_of sc rfl rfl fun cdv A outer s H E hr =>
  (dss_cons (ds_asg (de_var 0 (pv 0)) (dg_tup (n := 3) rfl (dgs_cons (dg_name (i := 2) sc.nd) (dgs_cons (dg_name (i := 3) sc.nd) (dgs_cons (dg_name (i := 4) sc.nd) dgs_nil)))))
  (dss_one (ds_ret (de_lc (own := [("one", 5), ("two", 6), ("place", 7)]) rfl sc.nd (di_zip3 (by rfl) M.n_zip (da_cons (de_var 2 (pv 2)) (da_cons (de_var 3 (pv 3)) (da_cons (de_var 4 (pv 4)) da_nil)))) (blkOk_by (N := N_holes_of) (sc := defScope s_holes_of) (by decide +kernel)) (fun _ _ _ _ _ => (dg_tup (n := 3) rfl (dgs_cons (dg_name (i := 5) sc.nd) (dgs_cons (dg_name (i := 6) sc.nd) (dgs_cons (dg_name (i := 7) sc.nd) dgs_nil))))) (fun _ _ _ _ _ => dts_nil) (fun _ _ _ _ _ => (de_call [false] (ok_sign M) (hr.mono (by decide)) (by rfl) M.g_sign M.F_sign.kp M.b_sign takes0 (da_cons (de_add (de_sub (de_var 6 (pv 6)) (de_var 5 (pv 5))) (de_call [false, false, false] (ok_at_hole M) (hr.mono (by decide)) (by rfl) M.g_at_hole M.F_at_hole.kp M.b_at_hole takes0 (da_cons (de_len (by rfl) M.n_len (da_cons (de_var 4 (pv 4)) da_nil)) (da_cons (de_var 7 (pv 7)) (da_cons (de_var 1 (pv 1)) da_nil))) (len_cons (len_cons (len_cons len_nil))))) da_nil) (len_cons len_nil)))))))
def φ_match_of : En → O R := fnD [0, 1, 2] 0 ((dRet (dTup (dCons (dOpA gIx (dOpA gIx (dVar 0) (dC (.int 0))) (dVar 1)) (dCons (dOpA gIx (dOpA gIx (dVar 0) (dC (.int 0))) (dVar 2)) (dCons (dOpA gIx (dVar 0) (dC (.int 1))) dNil))))))
theorem sc_match_of : FnScope N_match_of ["group", "one", "other"] (defScope s_match_of) := ⟨rfl, rfl, rfl, by decide +kernel, rfl, by decide +kernel, by decide +kernel⟩
theorem ok_match_of (M : Md K mg) : FnOk P w K mg base (L2.CX P w) 1 M.f_match_of M.d_match_of ["group", "one", "other"] (spD K T 3 φ_match_of) := by
  have sc := sc_match_of
  exact fn_ok (k := 0) (Pr := [0, 1, 2]) 3 0 M.F_match_of sc rfl rfl fun cdv A outer s H E hr =>
  (dss_one (ds_ret (de_tup (da_cons (de_ix (de_ix (de_var 0 (pv 0)) de_int) (de_var 1 (pv 1))) (da_cons (de_ix (de_ix (de_var 0 (pv 0)) de_int) (de_var 2 (pv 2))) (da_cons (de_ix (de_var 0 (pv 0)) de_int) da_nil))))))
def g_results_1 : D → En → Option En := (gN 4)
def b_results_1 : En → O Fl := (dSeq (dSet 5 (dLC (dRng1 (dCons (dVar 3) dNil)) (gN 6) dYes (dFn gSum (dCons (dCall φ_holes_of [false, false] (dCons (dCall φ_match_of [false, false, false] (dCons (dVar 0) (dCons (dVar 4) (dCons (dVar 6) dNil)))) (dCons (dOp2 gSub (dOpA gIx (dVar 1) (dVar 4)) (dOpA gIx (dVar 1) (dVar 6))) dNil))) dNil)) [6]))
  (dDrop (dM 2 isL mApp (dCons (dFl (dVar 5)) dNil))))
def φ_results : En → O R := fnD [0, 1] 5 ((dSeq (dIf (dNot (dTru (dCall φ_is_group [false] (dCons (dVar 0) dNil)))) (fun _ => .bad) dSkip)
  (dSeq (dIf (dNot (dTru (dCall φ_good_handicaps [false, false] (dCons (dVar 0) (dCons (dVar 1) dNil))))) (fun _ => .bad) dSkip)
  (dSeq (dPar 2 3 (dCons (dLst dNil) (dCons (dFn gLen (dCons (dOpA gIx (dVar 0) (dC (.int 0))) dNil)) dNil)))
  (dSeq (dFor (dRng1 (dCons (dVar 3) dNil)) g_results_1 b_results_1)
  (dRet (dVar 2)))))))
theorem sc_results : FnScope N_results ["group", "handicaps"] (defScope s_results) := ⟨rfl, rfl, rfl, by decide +kernel, rfl, by decide +kernel, by decide +kernel⟩
theorem ok_results (M : Md K mg) : FnOk P w K mg base (L2.CX P w) 4 M.f_results M.d_results ["group", "handicaps"] (spD K T 2 φ_results) := by
  have sc := sc_results
  exact fn_ok (k := 3) (Pr := [0, 1]) 2 5 M.F_results sc rfl rfl fun cdv A outer s H E hr =>
  (dss_cons (ds_if (dt_not (dt_tru (de_call [false] (ok_is_group M) (hr.mono (by decide)) (by rfl) M.g_is_group M.F_is_group.kp M.b_is_group (takes_of rfl rfl rfl rfl) (da_cons (de_var 0 (pv 0)) da_nil) (len_cons len_nil)))) (dss_one ds_bad) dss_nil)
  (dss_cons (ds_if (dt_not (dt_tru (de_call [false, false] (ok_good_handicaps M) (hr.mono (by decide)) (by rfl) M.g_good_handicaps M.F_good_handicaps.kp M.b_good_handicaps (takes_of rfl rfl rfl rfl) (da_cons (de_var 0 (pv 0)) (da_cons (de_var 1 (pv 1)) da_nil)) (len_cons (len_cons len_nil))))) (dss_one ds_bad) dss_nil)
  (dss_cons (ds_par (i := 2) (j := 3) rfl sc.nd (da_cons (de_lst da_nil) (da_cons (de_len (by rfl) M.n_len (da_cons (de_ix (de_var 0 (pv 0)) de_int) da_nil)) da_nil)) (by rfl))
  (dss_cons (ds_for (passes_of rfl) rfl (di_range1 (by rfl) M.n_range (da_cons (de_var 3 (pv 3)) da_nil)) (dg_name (i := 4) sc.nd) (dss_cons (ds_setLc (i := 5) (own := [("other", 6)]) rfl sc.nd (sw_true rfl rfl rfl (by decide +kernel)) (di_range1 (by rfl) M.n_range (da_cons (de_var 3 (pv 3)) da_nil)) (blkOk_by (N := N_results) (sc := defScope s_results) (by decide +kernel)) (fun _ _ _ _ _ => (dg_name (i := 6) sc.nd)) (fun _ _ _ _ _ => dts_nil) (fun _ _ _ _ _ => (de_sum rfl (by rfl) M.n_sum (da_cons (de_call [false, false] (ok_holes_of M) (hr.mono (by decide)) (by rfl) M.g_holes_of M.F_holes_of.kp M.b_holes_of takes0 (da_cons (de_call [false, false, false] (ok_match_of M) (hr.mono (by decide)) (by rfl) M.g_match_of M.F_match_of.kp M.b_match_of takes0 (da_cons (de_var 0 (pv 0)) (da_cons (de_var 4 (pv 4)) (da_cons (de_var 6 (pv 6)) da_nil))) (len_cons (len_cons (len_cons len_nil)))) (da_cons (de_sub (de_ix (de_var 1 (pv 1)) (de_var 4 (pv 4))) (de_ix (de_var 1 (pv 1)) (de_var 6 (pv 6)))) da_nil)) (len_cons (len_cons len_nil))) da_nil))))
  (dss_one (ds_expr (de_m (i := 2) (kd := isL) PySem.F.plainAttrs_list PySem.F.slot_list_append PySem.F.type_list_append mt_append mt_app tyL (pv 2) (da_cons (de_fl (de_var 5 (pv 5))) da_nil))))))
  (dss_one (ds_ret (de_var 2 (pv 2))))))))
def φ_all_halved : En → O R := fnD [0] 3 ((dSeq (dIf (dNot (dTru (dCall φ_is_group [false] (dCons (dVar 0) dNil)))) (fun _ => .bad) dSkip)
  (dSeq (dSet 1 (dFn gLen (dCons (dOpA gIx (dVar 0) (dC (.int 0))) dNil)))
  (dRet (dFn gTuple (dCons (dLC2 (dRng1 (dCons (dVar 1) dNil)) (gN 2) dYes (dRng2 (dCons (dOpA gAdd (dVar 2) (dC (.int 1))) (dCons (dVar 1) dNil))) (gN 3) dYes (dTup (dCons (dVar 2) (dCons (dVar 3) (dCons (dC (.int 0)) dNil)))) [2, 3] [3]) dNil))))))
theorem sc_all_halved : FnScope N_all_halved ["group"] (defScope s_all_halved) := ⟨rfl, rfl, rfl, by decide +kernel, rfl, by decide +kernel, by decide +kernel⟩
theorem ok_all_halved (M : Md K mg) : FnOk P w K mg base (L2.CX P w) 4 M.f_all_halved M.d_all_halved ["group"] (spD K T 1 φ_all_halved) := by
  have sc := sc_all_halved
  exact fn_ok (k := 3) (Pr := [0]) 1 3 M.F_all_halved sc rfl rfl fun cdv A outer s H E hr =>
  (dss_cons (ds_if (dt_not (dt_tru (de_call [false] (ok_is_group M) (hr.mono (by decide)) (by rfl) M.g_is_group M.F_is_group.kp M.b_is_group (takes_of rfl rfl rfl rfl) (da_cons (de_var 0 (pv 0)) da_nil) (len_cons len_nil)))) (dss_one ds_bad) dss_nil)
  (dss_cons (ds_set (i := 1) sc.nd (de_len (by rfl) M.n_len (da_cons (de_ix (de_var 0 (pv 0)) de_int) da_nil)))
  (dss_one (ds_ret (de_tuple (by rfl) M.n_tuple (da_cons (de_lc2 (own := [("one", 2), ("other", 3)]) [3] rfl sc.nd (di_range1 (by rfl) M.n_range (da_cons (de_var 1 (pv 1)) da_nil)) (blkOk_by (N := N_all_halved) (sc := defScope s_all_halved) (by decide +kernel)) (fun _ _ _ _ _ => (dg_name (i := 2) sc.nd)) (fun _ _ _ _ _ => dts_nil) (fun _ _ _ _ _ => (di_range2 (by rfl) M.n_range (da_cons (de_add (de_var 2 (pv 2)) de_int) (da_cons (de_var 1 (pv 1)) da_nil)))) (fun _ _ _ _ _ => (dg_name (i := 3) sc.nd)) (fun _ _ _ _ _ => dts_nil) (fun _ _ _ _ _ => (de_tup (da_cons (de_var 2 (pv 2)) (da_cons (de_var 3 (pv 3)) (da_cons de_int da_nil)))))) da_nil))))))
def φ__law_sort : En → O R := fnD [0] 0 ((dSeq (dIf (dTru (dFn gIsi5 (dCons (dVar 0) (dCons (dC (.ty "bool")) dNil)))) (dRet (dC (.int 1))) dSkip)
  (dSeq (dIf (dTru (dFn gIsi5 (dCons (dVar 0) (dCons (dC (.ty "int")) dNil)))) (dRet (dC (.int 2))) dSkip)
  (dSeq (dIf (dTru (dFn gIsi5 (dCons (dVar 0) (dCons (dC (.ty "str")) dNil)))) (dRet (dC (.int 3))) dSkip)
  (dSeq (dIf (dTru (dFn gIsi5 (dCons (dVar 0) (dCons (dC (.ty "list")) dNil)))) (dRet (dC (.int 4))) dSkip)
  (dRet (dIfE (dTru (dFn gIsi5 (dCons (dVar 0) (dCons (dC (.ty "tuple")) dNil)))) (dC (.int 5)) (dC (.int 6)))))))))
theorem sc__law_sort : FnScope N__law_sort ["_law_thing"] (defScope s__law_sort) := ⟨rfl, rfl, rfl, by decide +kernel, rfl, by decide +kernel, by decide +kernel⟩
theorem ok__law_sort (M : Md K mg) : FnOk P w K mg base (L2.CX P w) 1 M.f__law_sort M.d__law_sort ["_law_thing"] (spD K T 1 φ__law_sort) := by
  have sc := sc__law_sort
  exact fn_ok (k := 0) (Pr := [0]) 1 0 M.F__law_sort sc rfl rfl fun cdv A outer s H E hr =>
  (dss_cons (ds_if (dt_tru (de_isi (by rfl) M.n_isinstance (da_cons (de_var 0 (pv 0)) (da_cons (de_ty (by rfl) M.n_bool) da_nil)))) (dss_one (ds_ret de_int)) dss_nil)
  (dss_cons (ds_if (dt_tru (de_isi (by rfl) M.n_isinstance (da_cons (de_var 0 (pv 0)) (da_cons (de_ty (by rfl) M.n_int) da_nil)))) (dss_one (ds_ret de_int)) dss_nil)
  (dss_cons (ds_if (dt_tru (de_isi (by rfl) M.n_isinstance (da_cons (de_var 0 (pv 0)) (da_cons (de_ty (by rfl) M.n_str) da_nil)))) (dss_one (ds_ret de_int)) dss_nil)
  (dss_cons (ds_if (dt_tru (de_isi (by rfl) M.n_isinstance (da_cons (de_var 0 (pv 0)) (da_cons (de_ty (by rfl) M.n_list) da_nil)))) (dss_one (ds_ret de_int)) dss_nil)
  (dss_one (ds_ret (de_ifE (dt_tru (de_isi (by rfl) M.n_isinstance (da_cons (de_var 0 (pv 0)) (da_cons (de_ty (by rfl) M.n_tuple) da_nil)))) de_int de_int)))))))
def Φ__law_same (φr : En → O R) : En → O R := fnD [0, 1] 2 ((dSeq (dIf (dTst (dOp2 gNe (dCall φ__law_sort [false] (dCons (dVar 0) dNil)) (dCall φ__law_sort [false] (dCons (dVar 1) dNil)))) (dRet (dC (.bl false))) dSkip)
  (dSeq (dIf (dAnd (dTst (dOp2 gGt (dCall φ__law_sort [false] (dCons (dVar 0) dNil)) (dC (.int 3)))) (dTst (dOp2 gLt (dCall φ__law_sort [false] (dCons (dVar 0) dNil)) (dC (.int 6))))) (dSeq (dIf (dTst (dOp2 gNe (dFn gLen (dCons (dVar 0) dNil)) (dFn gLen (dCons (dVar 1) dNil)))) (dRet (dC (.bl false))) dSkip)
  (dRet (dOp2 gEq (dLC (dEnum (dCons (dVar 0) dNil)) (gTupD 2 (gCons (gN 2) (gCons (gN 3) gNil))) (dNot (dTru (dCall φr [false, false] (dCons (dVar 3) (dCons (dOpA gIx (dVar 1) (dVar 2)) dNil))))) (dVar 2) [2, 3]) (dLst dNil)))) dSkip)
  (dRet (dOp2 gEq (dVar 0) (dVar 1))))))
def φ__law_same : Nat → En → O R
  | 0 => fun _ => .bad
  | d + 1 => Φ__law_same (φ__law_same d)
theorem sc__law_same : FnScope N__law_same ["_law_told", "_law_due"] (defScope s__law_same) := ⟨rfl, rfl, rfl, by decide +kernel, rfl, by decide +kernel, by decide +kernel⟩
theorem oks__law_same (M : Md K mg) {φr : En → O R} {l : Nat} (hl : 2 ≤ l) (ih : FnOk P w K mg base (L2.CX P w) l M.f__law_same M.d__law_same ["_law_told", "_law_due"] (spD K T 2 φr)) : FnOk P w K mg base (L2.CX P w) (l + 1) M.f__law_same M.d__law_same ["_law_told", "_law_due"] (spD K T 2 (Φ__law_same φr)) := by
  have sc := sc__law_same
  exact fn_ok (k := l) (Pr := [0, 1]) 2 2 M.F__law_same sc rfl rfl fun cdv A outer s H E hr =>
  (dss_cons (ds_if (dt_ne hr.units (de_call [false] (ok__law_sort M) (hr.mono (by omega)) (by rfl) M.g__law_sort M.F__law_sort.kp M.b__law_sort (takes_of rfl rfl rfl rfl) (da_cons (de_var 0 (pv 0)) da_nil) (len_cons len_nil)) (de_call [false] (ok__law_sort M) (hr.mono (by omega)) (by rfl) M.g__law_sort M.F__law_sort.kp M.b__law_sort (takes_of rfl rfl rfl rfl) (da_cons (de_var 1 (pv 1)) da_nil) (len_cons len_nil))) (dss_one (ds_ret de_bl)) dss_nil)
  (dss_cons (ds_if (dt_bool (dw_and (dt_gt (de_call [false] (ok__law_sort M) (hr.mono (by omega)) (by rfl) M.g__law_sort M.F__law_sort.kp M.b__law_sort (takes_of rfl rfl rfl rfl) (da_cons (de_var 0 (pv 0)) da_nil) (len_cons len_nil)) de_int) (dw_and1 (dt_lt (de_call [false] (ok__law_sort M) (hr.mono (by omega)) (by rfl) M.g__law_sort M.F__law_sort.kp M.b__law_sort (takes_of rfl rfl rfl rfl) (da_cons (de_var 0 (pv 0)) da_nil) (len_cons len_nil)) de_int)))) (dss_cons (ds_if (dt_ne hr.units (de_len (by rfl) M.n_len (da_cons (de_var 0 (pv 0)) da_nil)) (de_len (by rfl) M.n_len (da_cons (de_var 1 (pv 1)) da_nil))) (dss_one (ds_ret de_bl)) dss_nil)
  (dss_one (ds_ret (de_eq hr.units (de_lc (own := [("_law_k", 2), ("_law_part", 3)]) rfl sc.nd (di_enum (by rfl) M.n_enumerate (da_cons (de_var 0 (pv 0)) da_nil)) (blkOk_by (N := N__law_same) (sc := defScope s__law_same) (by decide +kernel)) (fun _ _ _ _ _ => (dg_tup (n := 2) rfl (dgs_cons (dg_name (i := 2) sc.nd) (dgs_cons (dg_name (i := 3) sc.nd) dgs_nil)))) (fun _ _ _ _ _ => (dts_one (dt_not (dt_tru (de_call [false, false] ih (hr.mono (Nat.le_refl _)) (by rfl) M.g__law_same M.F__law_same.kp M.b__law_same takes0 (da_cons (de_var 3 (pv 3)) (da_cons (de_ix (de_var 1 (pv 1)) (de_var 2 (pv 2))) da_nil)) (len_cons (len_cons len_nil))))))) (fun _ _ _ _ _ => (de_var 2 (pv 2)))) (de_lst da_nil))))) dss_nil)
  (dss_one (ds_ret (de_eq hr.units (de_var 0 (pv 0)) (de_var 1 (pv 1)))))))
theorem okr__law_same (M : Md K mg) : ∀ d : Nat, FnOk P w K mg base (L2.CX P w) (2 + d) M.f__law_same M.d__law_same ["_law_told", "_law_due"] (spD K T 2 (φ__law_same d))
  | 0 => fn_bad rfl
  | d + 1 => oks__law_same M (Nat.le_add_right _ _) (okr__law_same M d)
def g__law_given_1 : D → En → Option En := (gN 4)
def b__law_given_1 : En → O Fl := (dSeq (dSet 5 (dTIdx (dVar 0) (dCons (dOpA gAdd (dOp2 gMod (dVar 4) (dFn gLen (dCons (dVar 0) dNil))) (dC (.int 1))) dNil)))
  (dAsg (gSubL 2 (dVar 5)) (dOpA gAdd (dOpA gIx (dVar 2) (dVar 5)) (dVar 3))))
def φ__law_given : En → O R := fnD [0, 1] 4 ((dSeq (dPar 2 3 (dCons (dMul (dLst (dCons (dC (.int 0)) dNil)) (dFn gLen (dCons (dVar 0) dNil))) (dCons (dIfE (dTst (dOp2 gGt (dVar 1) (dC (.int 0)))) (dC (.int 1)) (dUn gNeg (dC (.int 1)))) dNil)))
  (dSeq (dFor (dRng1 (dCons (dFn gAbs (dCons (dVar 1) dNil)) dNil)) g__law_given_1 b__law_given_1)
  (dRet (dVar 2)))))
theorem sc__law_given : FnScope N__law_given ["_law_index_here", "_law_strokes"] (defScope s__law_given) := ⟨rfl, rfl, rfl, by decide +kernel, rfl, by decide +kernel, by decide +kernel⟩
theorem ok__law_given (M : Md K mg) : FnOk P w K mg base (L2.CX P w) 1 M.f__law_given M.d__law_given ["_law_index_here", "_law_strokes"] (spD K T 2 φ__law_given) := by
  have sc := sc__law_given
  exact fn_ok (k := 0) (Pr := [0, 1]) 2 4 M.F__law_given sc rfl rfl fun cdv A outer s H E hr =>
  (dss_cons (ds_par (i := 2) (j := 3) rfl sc.nd (da_cons (de_mul (de_lst (da_cons de_int da_nil)) (de_len (by rfl) M.n_len (da_cons (de_var 0 (pv 0)) da_nil))) (da_cons (de_ifE (dt_gt (de_var 1 (pv 1)) de_int) de_int (de_neg de_int)) da_nil)) (by rfl))
  (dss_cons (ds_for (passes_of rfl) rfl (di_range1 (by rfl) M.n_range (da_cons (de_abs (by rfl) M.n_abs (da_cons (de_var 1 (pv 1)) da_nil)) da_nil)) (dg_name (i := 4) sc.nd) (dss_cons (ds_set (i := 5) sc.nd (de_tIdx (de_var 0 (pv 0)) (da_cons (de_add (de_mod (de_var 4 (pv 4)) (de_len (by rfl) M.n_len (da_cons (de_var 0 (pv 0)) da_nil))) de_int) da_nil)))
  (dss_one (ds_asg (de_add (de_ix (de_var 2 (pv 2)) (de_var 5 (pv 5))) (de_var 3 (pv 3))) (dg_subL (W := W0) 2 (pv 2) (de_var 5 (pv 5)))))))
  (dss_one (ds_ret (de_var 2 (pv 2))))))
def g__law_points_1 : D → En → Option En := (gTupD 3 (gCons (gN 3) (gCons (gN 4) (gCons (gN 5) gNil))))
def b__law_points_1 : En → O Fl := (dDrop (dM 2 isL mApp (dCons (dOp2 gSub (dFn gInt (dCons (dOp2 gLt (dOp2 gSub (dVar 3) (dVar 5)) (dVar 4)) dNil)) (dFn gInt (dCons (dOp2 gGt (dOp2 gSub (dVar 3) (dVar 5)) (dVar 4)) dNil))) dNil)))
def φ__law_points : En → O R := fnD [0, 1] 4 ((dSeq (dSet 2 (dLst dNil))
  (dSeq (dFor (dZip3 (dCons (dOpA gIx (dVar 0) (dC (.int 0))) (dCons (dOpA gIx (dVar 0) (dC (.int 1))) (dCons (dCall φ__law_given [false, false] (dCons (dOpA gIx (dVar 0) (dC (.int 2))) (dCons (dVar 1) dNil))) dNil)))) g__law_points_1 b__law_points_1)
  (dRet (dVar 2)))))
theorem sc__law_points : FnScope N__law_points ["_law_match_here", "_law_strokes"] (defScope s__law_points) := ⟨rfl, rfl, rfl, by decide +kernel, rfl, by decide +kernel, by decide +kernel⟩
theorem ok__law_points (M : Md K mg) : FnOk P w K mg base (L2.CX P w) 2 M.f__law_points M.d__law_points ["_law_match_here", "_law_strokes"] (spD K T 2 φ__law_points) := by
  have sc := sc__law_points
  exact fn_ok (k := 1) (Pr := [0, 1]) 2 4 M.F__law_points sc rfl rfl fun cdv A outer s H E hr =>
  (dss_cons (ds_set (i := 2) sc.nd (de_lst da_nil))
  (dss_cons (ds_for (passes_of rfl) rfl (di_zip3 (by rfl) M.n_zip (da_cons (de_ix (de_var 0 (pv 0)) de_int) (da_cons (de_ix (de_var 0 (pv 0)) de_int) (da_cons (de_call [false, false] (ok__law_given M) (hr.mono (by decide)) (by rfl) M.g__law_given M.F__law_given.kp M.b__law_given (takes_of rfl rfl rfl rfl) (da_cons (de_ix (de_var 0 (pv 0)) de_int) (da_cons (de_var 1 (pv 1)) da_nil)) (len_cons (len_cons len_nil))) da_nil)))) (dg_tup (n := 3) rfl (dgs_cons (dg_name (i := 3) sc.nd) (dgs_cons (dg_name (i := 4) sc.nd) (dgs_cons (dg_name (i := 5) sc.nd) dgs_nil)))) (dss_one (ds_expr (de_m (i := 2) (kd := isL) PySem.F.plainAttrs_list PySem.F.slot_list_append PySem.F.type_list_append mt_append mt_app tyL (pv 2) (da_cons (de_sub (de_intF (by rfl) M.n_int (da_cons (de_lt (de_sub (de_var 3 (pv 3)) (de_var 5 (pv 5))) (de_var 4 (pv 4))) da_nil)) (de_intF (by rfl) M.n_int (da_cons (de_gt (de_sub (de_var 3 (pv 3)) (de_var 5 (pv 5))) (de_var 4 (pv 4))) da_nil))) da_nil)))))
  (dss_one (ds_ret (de_var 2 (pv 2))))))
def φ__law_score : En → O R := fnD [0, 1] 0 ((dRet (dFn gSum (dCons (dCall φ__law_points [false, false] (dCons (dVar 0) (dCons (dVar 1) dNil))) dNil))))
theorem sc__law_score : FnScope N__law_score ["_law_match_here", "_law_strokes"] (defScope s__law_score) := ⟨rfl, rfl, rfl, by decide +kernel, rfl, by decide +kernel, by decide +kernel⟩
theorem ok__law_score (M : Md K mg) : FnOk P w K mg base (L2.CX P w) 3 M.f__law_score M.d__law_score ["_law_match_here", "_law_strokes"] (spD K T 2 φ__law_score) := by
  have sc := sc__law_score
  exact fn_ok (k := 2) (Pr := [0, 1]) 2 0 M.F__law_score sc rfl rfl fun cdv A outer s H E hr =>
  (dss_one (ds_ret (de_sum rfl (by rfl) M.n_sum (da_cons (de_call [false, false] (ok__law_points M) (hr.mono (by decide)) (by rfl) M.g__law_points M.F__law_points.kp M.b__law_points (takes_of rfl rfl rfl rfl) (da_cons (de_var 0 (pv 0)) (da_cons (de_var 1 (pv 1)) da_nil)) (len_cons (len_cons len_nil))) da_nil))))
def cg_law_1 : D → En → Option En := (gN 15)
def ct_law_1 : En → O Bool := dYes
def ce_law_1 : En → O R := (dOp2 gSub (dCall φ__law_pick [true, false] (dCons (dVar 2) (dCons (dC (.int 30)) dNil))) (dCall φ__law_one [true, false] (dCons (dVar 2) (dCons (dLst (dCons (dC (.int 0)) (dCons (dC (.int 10)) (dCons (dC (.int 30)) dNil)))) dNil))))
def g_law_1 : D → En → Option En := (gTupD 2 (gCons (gN 8) (gCons (gN 9) gNil)))
def b_law_1 : En → O Fl := (dDrop (dM 7 isL mApp (dCons (dLC (dZip2 (dCons (dVar 4) (dCons (dVar 6) dNil))) (gTupD 2 (gCons (gN 16) (gCons (gN 17) gNil))) dYes (dCall φ__law_score [false, false] (dCons (dTup (dCons (dVar 8) (dCons (dVar 16) (dCons (dVar 5) dNil)))) (dCons (dOp2 gSub (dVar 9) (dVar 17)) dNil))) [16, 17]) dNil)))
def q_law_1 : En → O Fl := (dIf (dOr (dNot (dTru (dCallB (φ__law_same 6) (dCons (dVar 10) (dCons (dVar 7) dNil))))) (dTst (dOp2 (gIsB true) (dCall φ_is_group [false] (dCons (dVar 3) dNil)) (dC (.bl true))))) (dRet (dC (.bl false))) dSkip)
def q_law_2 : En → O Fl := (dSeq (dIf (dOr (dTst (dOp2 gNe (dWk (dCall φ_results [false, false] (dCons (dVar 3) (dCons (dVar 6) dNil)))) (dVar 7))) (dTst (dOp2 gNe (dWk (dCall φ_results [false, false] (dCons (dVar 3) (dCons (dFn gTuple (dCons (dLC (dSeqI (dVar 6)) (gN 9) dYes (dOpA gAdd (dVar 9) (dC (.int 7))) [9]) dNil)) dNil)))) (dVar 7)))) (dRet (dC (.bl false))) dSkip)
  (dSeq (dSet 11 (dCall φ_all_halved [false] (dCons (dVar 3) dNil)))
  (dSeq (dSet 12 (dFn gLen (dCons (dVar 4) dNil)))
  (dSeq (dSet 13 (dLC (dSeqI (dVar 11)) (gN 14) dYes (dTup (dCons (dOpA gIx (dVar 14) (dC (.int 0))) (dCons (dOpA gIx (dVar 14) (dC (.int 1))) dNil))) [14]))
  (dSeq (dIf (dOr (dTst (dOp2 gNe (dFn gLen (dCons (dVar 11) dNil)) (dOp2 gFdiv (dMul (dVar 12) (dOp2 gSub (dVar 12) (dC (.int 1)))) (dC (.int 2))))) (dNot (dTru (dFn gIsi5 (dCons (dVar 11) (dCons (dC (.ty "tuple")) dNil)))))) (dRet (dC (.bl false))) dSkip)
  (dSeq (dIf (dTst (dOp2 gNe (dFn gList (dCons (dVar 13) dNil)) (dSrtST (dVar 13)))) (dRet (dC (.bl false))) dSkip)
  (dIf (dTst (dOp2 gNe (dLC (dSeqI (dVar 11)) (gN 14) (dOr (dNot (dTst (dCh3 gLe gLt gLt (dC (.int 0)) (dOpA gIx (dVar 14) (dC (.int 0))) (dOpA gIx (dVar 14) (dC (.int 1))) (dVar 12)))) (dTst (dOp2 gNe (dOpA gIx (dVar 14) (dC (.int 2))) (dC (.int 0))))) (dVar 14) [14]) (dLst dNil))) (dRet (dC (.bl false))) dSkip)))))))
def g_law_2 : D → En → Option En := (gN 1)
def b_law_2 : En → O Fl := (dSeq (dSet 2 (dCall φ__law_deck [false, false] (dCons (dVar 1) (dCons (dC (.int 11)) dNil))))
  (dSeq (dSet 3 (dCall φ__law_group [true, false, false, false] (dCons (dVar 2) (dCons (dC (.int 2)) (dCons (dC (.int 8)) (dCons (dC (.int 18)) dNil))))))
  (dSeq (dAsg (gTupD 2 (gCons (gN 4) (gCons (gN 5) gNil))) (dVar 3))
  (dSeq (dSet 6 (dFn gTuple (dCons (dLC (dSeqI (dVar 4)) cg_law_1 ct_law_1 ce_law_1 [15]) dNil)))
  (dSeq (dSet 7 (dLst dNil))
  (dSeq (dFor (dZip2 (dCons (dVar 4) (dCons (dVar 6) dNil))) g_law_1 b_law_1)
  (dLock 7 (dFresh 10 18 [3, 6] (dCall φ_results [false, false] (dCons (dVar 3) (dCons (dVar 6) dNil))) q_law_1 q_law_2))))))))
def φ_law : En → O R := fnD [0] 17 ((dSeq (dFor (dSeqI (dSl (dOpA gAdd (dLst (dCons (dC (.int 0)) dNil)) (dVar 0)) dON (dOS (dC (.int 8))))) g_law_2 b_law_2)
  (dSeq (dSet 3 (dTup (dCons (dTup (dCons (dTup (dCons (dC (.int 4)) (dCons (dC (.int 4)) (dCons (dC (.int 4)) dNil)))) (dCons (dTup (dCons (dC (.int 4)) (dCons (dC (.int 5)) (dCons (dC (.int 4)) dNil)))) (dCons (dTup (dCons (dC (.int 5)) (dCons (dC (.int 5)) (dCons (dC (.int 5)) dNil)))) dNil)))) (dCons (dTup (dCons (dC (.int 1)) (dCons (dC (.int 2)) (dCons (dC (.int 3)) dNil)))) dNil))))
  (dSeq (dIf (dTst (dOp2 gNe (dWk (dCall φ_results [false, false] (dCons (dVar 3) (dCons (dTup (dCons (dC (.int 0)) (dCons (dC (.int 0)) (dCons (dC (.int 0)) dNil)))) dNil)))) (dLst (dCons (dLst (dCons (dC (.int 0)) (dCons (dC (.int 1)) (dCons (dC (.int 3)) dNil)))) (dCons (dLst (dCons (dUn gNeg (dC (.int 1))) (dCons (dC (.int 0)) (dCons (dC (.int 2)) dNil)))) (dCons (dLst (dCons (dUn gNeg (dC (.int 3))) (dCons (dUn gNeg (dC (.int 2))) (dCons (dC (.int 0)) dNil)))) dNil)))))) (dRet (dC (.bl false))) dSkip)
  (dRet (dOp2 gEq (dWk (dCall φ_results [false, false] (dCons (dTup (dCons (dTup (dCons (dTup (dCons (dC (.int 4)) dNil)) (dCons (dTup (dCons (dC (.int 5)) dNil)) dNil))) (dCons (dTup (dCons (dC (.int 1)) dNil)) dNil))) (dCons (dTup (dCons (dC (.int 1000)) (dCons (dUn gNeg (dC (.int 1000))) dNil))) dNil)))) (dLst (dCons (dLst (dCons (dC (.int 0)) (dCons (dC (.int 1)) dNil))) (dCons (dLst (dCons (dUn gNeg (dC (.int 1))) (dCons (dC (.int 0)) dNil))) dNil)))))))))
theorem sc_law : FnScope N_law ["_law_script"] (defScope s_law) := ⟨rfl, rfl, rfl, by decide +kernel, rfl, by decide +kernel, by decide +kernel⟩
theorem ok_law (M : Md K mg) : FnOk P w K mg base (L2.CX P w) 9 M.f_law M.d_law ["_law_script"] (spD K T 1 φ_law) := by
  have sc := sc_law
  exact fn_ok (k := 8) (Pr := [0]) 1 17 M.F_law sc rfl rfl fun cdv A outer s H E hr =>
  (dss_cons (ds_for (passes_of rfl) rfl (di_seq (de_slice (de_add (de_lst (da_cons de_int da_nil)) (de_var 0 (pv 0))) do_none (do_some de_int))) (dg_name (i := 1) sc.nd) (dss_cons (ds_set (i := 2) sc.nd (de_call [false, false] (ok__law_deck M) (hr.mono (by decide)) (by rfl) M.g__law_deck M.F__law_deck.kp M.b__law_deck (takes_of rfl rfl rfl rfl) (da_cons (de_var 1 (pv 1)) (da_cons de_int da_nil)) (len_cons (len_cons len_nil))))
  (dss_cons (ds_set (i := 3) sc.nd (de_call [true, false, false, false] (ok__law_group M) (hr.mono (by decide)) (by rfl) M.g__law_group M.F__law_group.kp M.b__law_group (takes_of rfl rfl rfl rfl) (da_cons (de_var 2 (pv 2)) (da_cons de_int (da_cons de_int (da_cons de_int da_nil)))) (len_cons (len_cons (len_cons (len_cons len_nil))))))
  (dss_cons (ds_asg (de_var 3 (pv 3)) (dg_tup (n := 2) rfl (dgs_cons (dg_name (i := 4) sc.nd) (dgs_cons (dg_name (i := 5) sc.nd) dgs_nil))))
  (dss_cons (ds_set (i := 6) sc.nd (de_tuple (by rfl) M.n_tuple (da_cons (de_lc (own := [("_law_row", 15)]) rfl sc.nd (di_seq (de_var 4 (pv 4))) (blkOk_by (N := N_law) (sc := defScope s_law) (by decide +kernel)) (fun _ _ _ _ _ => (dg_name (i := 15) sc.nd)) (fun _ _ _ _ _ => dts_nil) (fun _ _ _ _ _ => (de_sub (de_call [true, false] (ok__law_pick M) (hr.mono (by decide)) (by rfl) M.g__law_pick M.F__law_pick.kp M.b__law_pick takes0 (da_cons (de_var 2 (pv 2)) (da_cons de_int da_nil)) (len_cons (len_cons len_nil))) (de_call [true, false] (ok__law_one M) (hr.mono (by decide)) (by rfl) M.g__law_one M.F__law_one.kp M.b__law_one takes0 (da_cons (de_var 2 (pv 2)) (da_cons (de_lst (da_cons de_int (da_cons de_int (da_cons de_int da_nil)))) da_nil)) (len_cons (len_cons len_nil)))))) da_nil)))
  (dss_cons (ds_set (i := 7) sc.nd (de_lst da_nil))
  (dss_cons (ds_for (passes_of rfl) rfl (di_zip2 (by rfl) M.n_zip (da_cons (de_var 4 (pv 4)) (da_cons (de_var 6 (pv 6)) da_nil))) (dg_tup (n := 2) rfl (dgs_cons (dg_name (i := 8) sc.nd) (dgs_cons (dg_name (i := 9) sc.nd) dgs_nil))) (dss_one (ds_expr (de_m (i := 7) (kd := isL) PySem.F.plainAttrs_list PySem.F.slot_list_append PySem.F.type_list_append mt_append mt_app tyL (pv 7) (da_cons (de_lc (own := [("_law_other", 16), ("_law_less", 17)]) rfl sc.nd (di_zip2 (by rfl) M.n_zip (da_cons (de_var 4 (pv 4)) (da_cons (de_var 6 (pv 6)) da_nil))) (blkOk_by (N := N_law) (sc := defScope s_law) (by decide +kernel)) (fun _ _ _ _ _ => (dg_tup (n := 2) rfl (dgs_cons (dg_name (i := 16) sc.nd) (dgs_cons (dg_name (i := 17) sc.nd) dgs_nil)))) (fun _ _ _ _ _ => dts_nil) (fun _ _ _ _ _ => (de_call [false, false] (ok__law_score M) (hr.mono (by decide)) (by rfl) M.g__law_score M.F__law_score.kp M.b__law_score takes0 (da_cons (de_tup (da_cons (de_var 8 (pv 8)) (da_cons (de_var 16 (pv 16)) (da_cons (de_var 5 (pv 5)) da_nil)))) (da_cons (de_sub (de_var 9 (pv 9)) (de_var 17 (pv 17))) da_nil)) (len_cons (len_cons len_nil))))) da_nil)))))
  (dss_lock 7 (dss_fresh (i := 10) (n := 18) (js := [3, 6]) sc.nd rfl (de_call [false, false] (ok_results M) (hr.mono (by decide)) (by rfl) M.g_results M.F_results.kp M.b_results (takes_of rfl rfl rfl rfl) (da_cons (de_var 3 (pv 3)) (da_cons (de_var 6 (pv 6)) da_nil)) (len_cons (len_cons len_nil))) (pv 10) (ds_if (dt_bool (dw_or (dt_not (dt_tru (de_callB (okr__law_same M 6) (hr.mono (by decide)) (by rfl) M.g__law_same M.F__law_same.kp M.b__law_same (takes_of rfl rfl rfl rfl) (da_cons (de_var 10 (pv 10)) (da_cons (de_var 7 (pv 7)) da_nil)) (len_cons (len_cons len_nil))))) (dw_or1 (dt_notB (de_call [false] (ok_is_group M) (hr.mono (by decide)) (by rfl) M.g_is_group M.F_is_group.kp M.b_is_group (takes_of rfl rfl rfl rfl) (da_cons (de_var 3 (pv 3)) da_nil) (len_cons len_nil)) de_bl)))) (dss_one (ds_ret de_bl)) dss_nil) (dss_cons (ds_if (dt_bool (dw_or (dt_ne hr.units (de_wk (de_call [false, false] (ok_results M) (hr.mono (by decide)) (by rfl) M.g_results M.F_results.kp M.b_results (takes_of rfl rfl rfl rfl) (da_cons (de_var 3 (pv 3)) (da_cons (de_var 6 (pv 6)) da_nil)) (len_cons (len_cons len_nil)))) (de_var 7 (pv 7))) (dw_or1 (dt_ne hr.units (de_wk (de_call [false, false] (ok_results M) (hr.mono (by decide)) (by rfl) M.g_results M.F_results.kp M.b_results (takes_of rfl rfl rfl rfl) (da_cons (de_var 3 (pv 3)) (da_cons (de_tuple (by rfl) M.n_tuple (da_cons (de_lc (own := [("_law_share", 9)]) rfl sc.nd (di_seq (de_var 6 (pv 6))) (blkOk_by (N := N_law) (sc := defScope s_law) (by decide +kernel)) (fun _ _ _ _ _ => (dg_name (i := 9) sc.nd)) (fun _ _ _ _ _ => dts_nil) (fun _ _ _ _ _ => (de_add (de_var 9 (pv 9)) de_int))) da_nil)) da_nil)) (len_cons (len_cons len_nil)))) (de_var 7 (pv 7)))))) (dss_one (ds_ret de_bl)) dss_nil)
  (dss_cons (ds_set (i := 11) sc.nd (de_call [false] (ok_all_halved M) (hr.mono (by decide)) (by rfl) M.g_all_halved M.F_all_halved.kp M.b_all_halved (takes_of rfl rfl rfl rfl) (da_cons (de_var 3 (pv 3)) da_nil) (len_cons len_nil)))
  (dss_cons (ds_set (i := 12) sc.nd (de_len (by rfl) M.n_len (da_cons (de_var 4 (pv 4)) da_nil)))
  (dss_cons (ds_setLc (i := 13) (own := [("_law_wish", 14)]) rfl sc.nd (sw_true rfl rfl rfl (by decide +kernel)) (di_seq (de_var 11 (pv 11))) (blkOk_by (N := N_law) (sc := defScope s_law) (by decide +kernel)) (fun _ _ _ _ _ => (dg_name (i := 14) sc.nd)) (fun _ _ _ _ _ => dts_nil) (fun _ _ _ _ _ => (de_tup (da_cons (de_ix (de_var 14 (pv 14)) de_int) (da_cons (de_ix (de_var 14 (pv 14)) de_int) da_nil)))))
  (dss_cons (ds_if (dt_bool (dw_or (dt_ne hr.units (de_len (by rfl) M.n_len (da_cons (de_var 11 (pv 11)) da_nil)) (de_fdiv (de_mul (de_var 12 (pv 12)) (de_sub (de_var 12 (pv 12)) de_int)) de_int)) (dw_or1 (dt_not (dt_tru (de_isi (by rfl) M.n_isinstance (da_cons (de_var 11 (pv 11)) (da_cons (de_ty (by rfl) M.n_tuple) da_nil)))))))) (dss_one (ds_ret de_bl)) dss_nil)
  (dss_cons (ds_if (dt_ne hr.units (de_list (by rfl) M.n_list (da_cons (de_var 13 (pv 13)) da_nil)) (de_srtST rfl hr.units (by rfl) M.n_sorted (by rfl) M.n_set (de_var 13 (pv 13)))) (dss_one (ds_ret de_bl)) dss_nil)
  (dss_one (ds_if (dt_ne hr.units (de_lc (own := [("_law_wish", 14)]) rfl sc.nd (di_seq (de_var 11 (pv 11))) (blkOk_by (N := N_law) (sc := defScope s_law) (by decide +kernel)) (fun _ _ _ _ _ => (dg_name (i := 14) sc.nd)) (fun _ _ _ _ _ => (dts_one (dt_bool (dw_or (dt_not (dt_leltlt de_int (de_ix (de_var 14 (pv 14)) de_int) (de_ix (de_var 14 (pv 14)) de_int) (de_var 12 (pv 12)))) (dw_or1 (dt_ne hr.units (de_ix (de_var 14 (pv 14)) de_int) de_int)))))) (fun _ _ _ _ _ => (de_var 14 (pv 14)))) (de_lst da_nil)) (dss_one (ds_ret de_bl)) dss_nil)))))))))))))))))
  (dss_cons (ds_set (i := 3) sc.nd (de_tup (da_cons (de_tup (da_cons (de_tup (da_cons de_int (da_cons de_int (da_cons de_int da_nil)))) (da_cons (de_tup (da_cons de_int (da_cons de_int (da_cons de_int da_nil)))) (da_cons (de_tup (da_cons de_int (da_cons de_int (da_cons de_int da_nil)))) da_nil)))) (da_cons (de_tup (da_cons de_int (da_cons de_int (da_cons de_int da_nil)))) da_nil))))
  (dss_cons (ds_if (dt_ne hr.units (de_wk (de_call [false, false] (ok_results M) (hr.mono (by decide)) (by rfl) M.g_results M.F_results.kp M.b_results (takes_of rfl rfl rfl rfl) (da_cons (de_var 3 (pv 3)) (da_cons (de_tup (da_cons de_int (da_cons de_int (da_cons de_int da_nil)))) da_nil)) (len_cons (len_cons len_nil)))) (de_lst (da_cons (de_lst (da_cons de_int (da_cons de_int (da_cons de_int da_nil)))) (da_cons (de_lst (da_cons (de_neg de_int) (da_cons de_int (da_cons de_int da_nil)))) (da_cons (de_lst (da_cons (de_neg de_int) (da_cons (de_neg de_int) (da_cons de_int da_nil)))) da_nil))))) (dss_one (ds_ret de_bl)) dss_nil)
  (dss_one (ds_ret (de_eq hr.units (de_wk (de_call [false, false] (ok_results M) (hr.mono (by decide)) (by rfl) M.g_results M.F_results.kp M.b_results (takes_of rfl rfl rfl rfl) (da_cons (de_tup (da_cons (de_tup (da_cons (de_tup (da_cons de_int da_nil)) (da_cons (de_tup (da_cons de_int da_nil)) da_nil))) (da_cons (de_tup (da_cons de_int da_nil)) da_nil))) (da_cons (de_tup (da_cons de_int (da_cons (de_neg de_int) da_nil))) da_nil)) (len_cons (len_cons len_nil)))) (de_lst (da_cons (de_lst (da_cons de_int (da_cons de_int da_nil))) (da_cons (de_lst (da_cons (de_neg de_int) (da_cons de_int da_nil))) da_nil)))))))))
end
end K11

namespace K11
open PySem PySem.Spec PyProof.Rows L2 DL
theorem x_is_from (v lo hi : Int) : φ_is_from [.fz (.int v), .fz (.int lo), .fz (.int hi)] = .ok (.fz (.bl (decide (lo ≤ v) && decide (v ≤ hi)))) [.fz (.int v), .fz (.int lo), .fz (.int hi)] := by
  unfold φ_is_from
  simp only [dVar, vSlot, dC, dOp2, vOp2, dOpA, vOpA, vAn, An.r, dTst, DL.vBool, vTru, dTru, truth, dAnd, dOr, dNot, dAndV, dOrV, dNotV, dIfE, dNil, dCons, dTup, vTup, dLst, vLst, dSkip, vSeq, dSeq, dIf, dRet, dDrop, vSto, vSet, dSet, vAsg, dAsg, gN, DL.gNil, DL.gCons, gTupD, dFor, vTurn, dUn, gNeg, dMul, vMul, isNew, gAdd, DL.gSub, gII, tt2, cdiv, gFdiv, cmod, gMod, cpow, gPow, gLt, gLe, gGt, gGe, gEq_ii, gNe_ii, dIsN, DL.isNon, dCh, vCh, vCh2, dON, dOS, dSl, vSl, gSubL, dAug, vAug, isFN, vPar, dPar, vM, dM, isL, mApp, mPopAt, mPop, gIdx, vTIdx, isT, dTIdx, gIx, dFn, vFn, ress, gLen, gIsi5, isTy, kn, gAll, gAny, gInt, gAbs, gMax2, gMin2, gSum, gMax1, gMin1, gSorted, gList, gTuple, dR1, dR2, vR1, vR2, dLRg, dTRg, dLenSet, vLenSet, dSeqI, vSeqI, itemsOf, dRng1, dRng2, vRng1, vRng2, dEnum, dZip2, dZip3, vEnum, vZip2, vZip3, dLC, vLC, dCall, vCall, frzM, cSl, cSls, upR, cRes, atsOf, fnD, ownIn_G, ownG_nil, ownG_fz, ownG_no, ownG_own, wipeE, dStep, lcStep, dYes, vFin, vOut, outR, outE, dLend, vLend, lendE, backE, flatR, lend_fzo, back_fzo, lend_fz, lend_no, lend_own1, lend_own0, back_fz, back_no, back_own1, back_own0, flat_ints, flatO_ints, yPlain, yNil, vYSeq, ySeq, vYield, yYield, yFor, vGen, fzE, gnD, noE, vListG, dListG, gAddI, gMulI, dLit, dFmt, vFmt, dJs, dJoin, gStr, dCallB, vCallB, keepOwn, isOwn, res, frz, frzs, flat, O.bind_ok, O.bind_bad, O.bind_exn, List.nodup_cons, List.nodup_nil, List.not_mem_nil, List.mem_cons, List.mem_singleton, not_false_eq_true, and_true, true_and, List.contains_cons, List.contains_nil, Nat.zero_add, List.getElem?_nil, List.getElem?_cons_zero, List.getElem?_cons_succ, List.set_cons_zero, List.set_cons_succ, Option.map_some, Option.map_none, if_true, if_false, Bool.and_true, Bool.true_and, Bool.and_false, Bool.false_and, Bool.or_true, Bool.true_or, Bool.or_false, Bool.false_or, Bool.not_true, Bool.not_false, List.length_cons, List.length_nil, List.append_nil, List.cons_append, List.nil_append, List.replicate_succ, List.replicate_zero, decide_true, decide_false, ↓reduceIte, Int.cast_ofNat_Int, Int.reduceLE, Int.reduceLT, Int.reduceToNat, Int.reduceAdd, Int.reduceSub, Int.reduceMul, Int.reduceNeg, Int.reduceEq, Int.reduceNe, Int.reduceBEq, Int.reduceBNe, Int.reduceGT, Int.reduceGE, ne_eq, Nat.reduceAdd, Nat.reduceLeDiff, Nat.reduceEqDiff, Nat.reduceSub, Nat.reduceMul, Nat.reduceLT, Nat.reduceBEq, String.reduceEq, reduceCtorEq, beq_self_eq_true, List.map_cons, List.map_nil, List.reverse_nil]
  by_cases h : lo ≤ v
  · simp only [dVar, vSlot, dC, dOp2, vOp2, dOpA, vOpA, vAn, An.r, dTst, DL.vBool, vTru, dTru, truth, dAnd, dOr, dNot, dAndV, dOrV, dNotV, dIfE, dNil, dCons, dTup, vTup, dLst, vLst, dSkip, vSeq, dSeq, dIf, dRet, dDrop, vSto, vSet, dSet, vAsg, dAsg, gN, DL.gNil, DL.gCons, gTupD, dFor, vTurn, dUn, gNeg, dMul, vMul, isNew, gAdd, DL.gSub, gII, tt2, cdiv, gFdiv, cmod, gMod, cpow, gPow, gLt, gLe, gGt, gGe, gEq_ii, gNe_ii, dIsN, DL.isNon, dCh, vCh, vCh2, dON, dOS, dSl, vSl, gSubL, dAug, vAug, isFN, vPar, dPar, vM, dM, isL, mApp, mPopAt, mPop, gIdx, vTIdx, isT, dTIdx, gIx, dFn, vFn, ress, gLen, gIsi5, isTy, kn, gAll, gAny, gInt, gAbs, gMax2, gMin2, gSum, gMax1, gMin1, gSorted, gList, gTuple, dR1, dR2, vR1, vR2, dLRg, dTRg, dLenSet, vLenSet, dSeqI, vSeqI, itemsOf, dRng1, dRng2, vRng1, vRng2, dEnum, dZip2, dZip3, vEnum, vZip2, vZip3, dLC, vLC, dCall, vCall, frzM, cSl, cSls, upR, cRes, atsOf, fnD, ownIn_G, ownG_nil, ownG_fz, ownG_no, ownG_own, wipeE, dStep, lcStep, dYes, vFin, vOut, outR, outE, dLend, vLend, lendE, backE, flatR, lend_fzo, back_fzo, lend_fz, lend_no, lend_own1, lend_own0, back_fz, back_no, back_own1, back_own0, flat_ints, flatO_ints, yPlain, yNil, vYSeq, ySeq, vYield, yYield, yFor, vGen, fzE, gnD, noE, vListG, dListG, gAddI, gMulI, dLit, dFmt, vFmt, dJs, dJoin, gStr, dCallB, vCallB, keepOwn, isOwn, res, frz, frzs, flat, O.bind_ok, O.bind_bad, O.bind_exn, List.nodup_cons, List.nodup_nil, List.not_mem_nil, List.mem_cons, List.mem_singleton, not_false_eq_true, and_true, true_and, List.contains_cons, List.contains_nil, Nat.zero_add, List.getElem?_nil, List.getElem?_cons_zero, List.getElem?_cons_succ, List.set_cons_zero, List.set_cons_succ, Option.map_some, Option.map_none, if_true, if_false, Bool.and_true, Bool.true_and, Bool.and_false, Bool.false_and, Bool.or_true, Bool.true_or, Bool.or_false, Bool.false_or, Bool.not_true, Bool.not_false, List.length_cons, List.length_nil, List.append_nil, List.cons_append, List.nil_append, List.replicate_succ, List.replicate_zero, decide_true, decide_false, ↓reduceIte, Int.cast_ofNat_Int, Int.reduceLE, Int.reduceLT, Int.reduceToNat, Int.reduceAdd, Int.reduceSub, Int.reduceMul, Int.reduceNeg, Int.reduceEq, Int.reduceNe, Int.reduceBEq, Int.reduceBNe, Int.reduceGT, Int.reduceGE, ne_eq, Nat.reduceAdd, Nat.reduceLeDiff, Nat.reduceEqDiff, Nat.reduceSub, Nat.reduceMul, Nat.reduceLT, Nat.reduceBEq, String.reduceEq, reduceCtorEq, beq_self_eq_true, List.map_cons, List.map_nil, List.reverse_nil, h]
  · simp only [dVar, vSlot, dC, dOp2, vOp2, dOpA, vOpA, vAn, An.r, dTst, DL.vBool, vTru, dTru, truth, dAnd, dOr, dNot, dAndV, dOrV, dNotV, dIfE, dNil, dCons, dTup, vTup, dLst, vLst, dSkip, vSeq, dSeq, dIf, dRet, dDrop, vSto, vSet, dSet, vAsg, dAsg, gN, DL.gNil, DL.gCons, gTupD, dFor, vTurn, dUn, gNeg, dMul, vMul, isNew, gAdd, DL.gSub, gII, tt2, cdiv, gFdiv, cmod, gMod, cpow, gPow, gLt, gLe, gGt, gGe, gEq_ii, gNe_ii, dIsN, DL.isNon, dCh, vCh, vCh2, dON, dOS, dSl, vSl, gSubL, dAug, vAug, isFN, vPar, dPar, vM, dM, isL, mApp, mPopAt, mPop, gIdx, vTIdx, isT, dTIdx, gIx, dFn, vFn, ress, gLen, gIsi5, isTy, kn, gAll, gAny, gInt, gAbs, gMax2, gMin2, gSum, gMax1, gMin1, gSorted, gList, gTuple, dR1, dR2, vR1, vR2, dLRg, dTRg, dLenSet, vLenSet, dSeqI, vSeqI, itemsOf, dRng1, dRng2, vRng1, vRng2, dEnum, dZip2, dZip3, vEnum, vZip2, vZip3, dLC, vLC, dCall, vCall, frzM, cSl, cSls, upR, cRes, atsOf, fnD, ownIn_G, ownG_nil, ownG_fz, ownG_no, ownG_own, wipeE, dStep, lcStep, dYes, vFin, vOut, outR, outE, dLend, vLend, lendE, backE, flatR, lend_fzo, back_fzo, lend_fz, lend_no, lend_own1, lend_own0, back_fz, back_no, back_own1, back_own0, flat_ints, flatO_ints, yPlain, yNil, vYSeq, ySeq, vYield, yYield, yFor, vGen, fzE, gnD, noE, vListG, dListG, gAddI, gMulI, dLit, dFmt, vFmt, dJs, dJoin, gStr, dCallB, vCallB, keepOwn, isOwn, res, frz, frzs, flat, O.bind_ok, O.bind_bad, O.bind_exn, List.nodup_cons, List.nodup_nil, List.not_mem_nil, List.mem_cons, List.mem_singleton, not_false_eq_true, and_true, true_and, List.contains_cons, List.contains_nil, Nat.zero_add, List.getElem?_nil, List.getElem?_cons_zero, List.getElem?_cons_succ, List.set_cons_zero, List.set_cons_succ, Option.map_some, Option.map_none, if_true, if_false, Bool.and_true, Bool.true_and, Bool.and_false, Bool.false_and, Bool.or_true, Bool.true_or, Bool.or_false, Bool.false_or, Bool.not_true, Bool.not_false, List.length_cons, List.length_nil, List.append_nil, List.cons_append, List.nil_append, List.replicate_succ, List.replicate_zero, decide_true, decide_false, ↓reduceIte, Int.cast_ofNat_Int, Int.reduceLE, Int.reduceLT, Int.reduceToNat, Int.reduceAdd, Int.reduceSub, Int.reduceMul, Int.reduceNeg, Int.reduceEq, Int.reduceNe, Int.reduceBEq, Int.reduceBNe, Int.reduceGT, Int.reduceGE, ne_eq, Nat.reduceAdd, Nat.reduceLeDiff, Nat.reduceEqDiff, Nat.reduceSub, Nat.reduceMul, Nat.reduceLT, Nat.reduceBEq, String.reduceEq, reduceCtorEq, beq_self_eq_true, List.map_cons, List.map_nil, List.reverse_nil, h]
theorem x_at_hole (n p s : Int) (hn : 0 < n) (hb : n.natAbs < 1073741824) : φ_at_hole [.fz (.int n), .fz (.int p), .fz (.int s)] = .ok (.fz (.int (if s < 0 then -((-s + n - p).fdiv n) else (s + n - p).fdiv n))) [.fz (.int n), .fz (.int p), .fz (.int s)] := by
  unfold φ_at_hole
  have h1 : decide (n ≠ 0) = true := decide_eq_true (by omega)
  have h2 : decide (n.natAbs < 1073741824) = true := decide_eq_true hb
  by_cases h : s < 0
  · simp only [dVar, vSlot, dC, dOp2, vOp2, dOpA, vOpA, vAn, An.r, dTst, DL.vBool, vTru, dTru, truth, dAnd, dOr, dNot, dAndV, dOrV, dNotV, dIfE, dNil, dCons, dTup, vTup, dLst, vLst, dSkip, vSeq, dSeq, dIf, dRet, dDrop, vSto, vSet, dSet, vAsg, dAsg, gN, DL.gNil, DL.gCons, gTupD, dFor, vTurn, dUn, gNeg, dMul, vMul, isNew, gAdd, DL.gSub, gII, tt2, cdiv, gFdiv, cmod, gMod, cpow, gPow, gLt, gLe, gGt, gGe, gEq_ii, gNe_ii, dIsN, DL.isNon, dCh, vCh, vCh2, dON, dOS, dSl, vSl, gSubL, dAug, vAug, isFN, vPar, dPar, vM, dM, isL, mApp, mPopAt, mPop, gIdx, vTIdx, isT, dTIdx, gIx, dFn, vFn, ress, gLen, gIsi5, isTy, kn, gAll, gAny, gInt, gAbs, gMax2, gMin2, gSum, gMax1, gMin1, gSorted, gList, gTuple, dR1, dR2, vR1, vR2, dLRg, dTRg, dLenSet, vLenSet, dSeqI, vSeqI, itemsOf, dRng1, dRng2, vRng1, vRng2, dEnum, dZip2, dZip3, vEnum, vZip2, vZip3, dLC, vLC, dCall, vCall, frzM, cSl, cSls, upR, cRes, atsOf, fnD, ownIn_G, ownG_nil, ownG_fz, ownG_no, ownG_own, wipeE, dStep, lcStep, dYes, vFin, vOut, outR, outE, dLend, vLend, lendE, backE, flatR, lend_fzo, back_fzo, lend_fz, lend_no, lend_own1, lend_own0, back_fz, back_no, back_own1, back_own0, flat_ints, flatO_ints, yPlain, yNil, vYSeq, ySeq, vYield, yYield, yFor, vGen, fzE, gnD, noE, vListG, dListG, gAddI, gMulI, dLit, dFmt, vFmt, dJs, dJoin, gStr, dCallB, vCallB, keepOwn, isOwn, res, frz, frzs, flat, O.bind_ok, O.bind_bad, O.bind_exn, List.nodup_cons, List.nodup_nil, List.not_mem_nil, List.mem_cons, List.mem_singleton, not_false_eq_true, and_true, true_and, List.contains_cons, List.contains_nil, Nat.zero_add, List.getElem?_nil, List.getElem?_cons_zero, List.getElem?_cons_succ, List.set_cons_zero, List.set_cons_succ, Option.map_some, Option.map_none, if_true, if_false, Bool.and_true, Bool.true_and, Bool.and_false, Bool.false_and, Bool.or_true, Bool.true_or, Bool.or_false, Bool.false_or, Bool.not_true, Bool.not_false, List.length_cons, List.length_nil, List.append_nil, List.cons_append, List.nil_append, List.replicate_succ, List.replicate_zero, decide_true, decide_false, ↓reduceIte, Int.cast_ofNat_Int, Int.reduceLE, Int.reduceLT, Int.reduceToNat, Int.reduceAdd, Int.reduceSub, Int.reduceMul, Int.reduceNeg, Int.reduceEq, Int.reduceNe, Int.reduceBEq, Int.reduceBNe, Int.reduceGT, Int.reduceGE, ne_eq, Nat.reduceAdd, Nat.reduceLeDiff, Nat.reduceEqDiff, Nat.reduceSub, Nat.reduceMul, Nat.reduceLT, Nat.reduceBEq, String.reduceEq, reduceCtorEq, beq_self_eq_true, List.map_cons, List.map_nil, List.reverse_nil, h, h1, h2]
  · simp only [dVar, vSlot, dC, dOp2, vOp2, dOpA, vOpA, vAn, An.r, dTst, DL.vBool, vTru, dTru, truth, dAnd, dOr, dNot, dAndV, dOrV, dNotV, dIfE, dNil, dCons, dTup, vTup, dLst, vLst, dSkip, vSeq, dSeq, dIf, dRet, dDrop, vSto, vSet, dSet, vAsg, dAsg, gN, DL.gNil, DL.gCons, gTupD, dFor, vTurn, dUn, gNeg, dMul, vMul, isNew, gAdd, DL.gSub, gII, tt2, cdiv, gFdiv, cmod, gMod, cpow, gPow, gLt, gLe, gGt, gGe, gEq_ii, gNe_ii, dIsN, DL.isNon, dCh, vCh, vCh2, dON, dOS, dSl, vSl, gSubL, dAug, vAug, isFN, vPar, dPar, vM, dM, isL, mApp, mPopAt, mPop, gIdx, vTIdx, isT, dTIdx, gIx, dFn, vFn, ress, gLen, gIsi5, isTy, kn, gAll, gAny, gInt, gAbs, gMax2, gMin2, gSum, gMax1, gMin1, gSorted, gList, gTuple, dR1, dR2, vR1, vR2, dLRg, dTRg, dLenSet, vLenSet, dSeqI, vSeqI, itemsOf, dRng1, dRng2, vRng1, vRng2, dEnum, dZip2, dZip3, vEnum, vZip2, vZip3, dLC, vLC, dCall, vCall, frzM, cSl, cSls, upR, cRes, atsOf, fnD, ownIn_G, ownG_nil, ownG_fz, ownG_no, ownG_own, wipeE, dStep, lcStep, dYes, vFin, vOut, outR, outE, dLend, vLend, lendE, backE, flatR, lend_fzo, back_fzo, lend_fz, lend_no, lend_own1, lend_own0, back_fz, back_no, back_own1, back_own0, flat_ints, flatO_ints, yPlain, yNil, vYSeq, ySeq, vYield, yYield, yFor, vGen, fzE, gnD, noE, vListG, dListG, gAddI, gMulI, dLit, dFmt, vFmt, dJs, dJoin, gStr, dCallB, vCallB, keepOwn, isOwn, res, frz, frzs, flat, O.bind_ok, O.bind_bad, O.bind_exn, List.nodup_cons, List.nodup_nil, List.not_mem_nil, List.mem_cons, List.mem_singleton, not_false_eq_true, and_true, true_and, List.contains_cons, List.contains_nil, Nat.zero_add, List.getElem?_nil, List.getElem?_cons_zero, List.getElem?_cons_succ, List.set_cons_zero, List.set_cons_succ, Option.map_some, Option.map_none, if_true, if_false, Bool.and_true, Bool.true_and, Bool.and_false, Bool.false_and, Bool.or_true, Bool.true_or, Bool.or_false, Bool.false_or, Bool.not_true, Bool.not_false, List.length_cons, List.length_nil, List.append_nil, List.cons_append, List.nil_append, List.replicate_succ, List.replicate_zero, decide_true, decide_false, ↓reduceIte, Int.cast_ofNat_Int, Int.reduceLE, Int.reduceLT, Int.reduceToNat, Int.reduceAdd, Int.reduceSub, Int.reduceMul, Int.reduceNeg, Int.reduceEq, Int.reduceNe, Int.reduceBEq, Int.reduceBNe, Int.reduceGT, Int.reduceGE, ne_eq, Nat.reduceAdd, Nat.reduceLeDiff, Nat.reduceEqDiff, Nat.reduceSub, Nat.reduceMul, Nat.reduceLT, Nat.reduceBEq, String.reduceEq, reduceCtorEq, beq_self_eq_true, List.map_cons, List.map_nil, List.reverse_nil, h, h1, h2]
def tI (l : List Int) : D := .tup (l.map .int)
def lI (l : List Int) : D := .lst (l.map .int)
def mD (f s x : List Int) : D := .tup [tI f, tI s, tI x]
def ids (n : Nat) : List Int := (List.range n).map fun i => 1 + (i : Nat)
theorem ids_mem {n : Nat} {v : Int} : v ∈ ids n ↔ 1 ≤ v ∧ v ≤ n := by
  unfold ids
  rw [List.mem_map]
  constructor
  · rintro ⟨i, hi, rfl⟩
    have := List.mem_range.mp hi
    omega
  · rintro ⟨h1, h2⟩
    exact ⟨(v - 1).toNat, List.mem_range.mpr (by omega), by omega⟩
theorem ids_nodup (n : Nat) : (ids n).Nodup := by
  unfold ids
  refine List.pairwise_map.mpr ((List.nodup_range (n := n)).imp fun {a b} h e => h (by omega))
theorem ids_length (n : Nat) : (ids n).length = n := by unfold ids; rw [List.length_map, List.length_range]
structure VM (n : Nat) (f s x : List Int) : Prop where
  n1 : 1 ≤ n
  n2 : n ≤ 18
  lf : f.length = n
  ls : s.length = n
  rf : ∀ v ∈ f, 1 ≤ v ∧ v ≤ 15
  rs : ∀ v ∈ s, 1 ≤ v ∧ v ≤ 15
  pm : x.Perm (ids n)
theorem VM.lx {n : Nat} {f s x : List Int} (m : VM n f s x) : x.length = n := by rw [m.pm.length_eq, ids_length]
theorem VM.rx {n : Nat} {f s x : List Int} (m : VM n f s x) : ∀ v ∈ x, 1 ≤ v ∧ v ≤ (n : Int) := fun v hv => ids_mem.mp (m.pm.mem_iff.mp hv)
theorem VM.nd {n : Nat} {f s x : List Int} (m : VM n f s x) : x.Nodup := m.pm.nodup_iff.mpr (ids_nodup n)
theorem VM.full {n : Nat} {f s x : List Int} (m : VM n f s x) {v : Int} (h1 : 1 ≤ v) (h2 : v ≤ n) : v ∈ x := m.pm.mem_iff.mpr (ids_mem.mpr ⟨h1, h2⟩)
theorem all_true {α : Type} : ∀ (l : List α), toBs (l.map fun _ => D.bl true) = some (l.map fun _ => true)
  | [] => rfl
  | a :: l => by
    show (match some true, toBs (l.map fun _ => D.bl true) with | some i, some is => some (i :: is) | _, _ => none) = _
    rw [all_true l]; rfl
theorem all_id {α : Type} (l : List α) : (l.map fun _ => true).all id = true := by
  simp
theorem x_good_scores (l : List Int) (h1 : 1 ≤ l.length) (h2 : l.length ≤ 18) (h : ∀ v ∈ l, 1 ≤ v ∧ v ≤ 15) : φ_good_scores [.fz (tI l)] = .ok (.fz (.bl true)) [.fz (tI l)] := by
  unfold φ_good_scores tI
  have e1 : ((1 : Int) ≤ (l.length : Int)) := by omega
  have e2 : ((l.length : Int) ≤ 18) := by omega
  have e3 : l.length ≤ 1000000 := by omega
  simp only [dVar, vSlot, dC, dOp2, vOp2, dOpA, vOpA, vAn, An.r, dTst, DL.vBool, vTru, dTru, truth, dAnd, dOr, dNot, dAndV, dOrV, dNotV, dIfE, dNil, dCons, dTup, vTup, dLst, vLst, dSkip, vSeq, dSeq, dIf, dRet, dDrop, vSto, vSet, dSet, vAsg, dAsg, gN, DL.gNil, DL.gCons, gTupD, dFor, vTurn, dUn, gNeg, dMul, vMul, isNew, gAdd, DL.gSub, gII, tt2, cdiv, gFdiv, cmod, gMod, cpow, gPow, gLt, gLe, gGt, gGe, gEq_ii, gNe_ii, dIsN, DL.isNon, dCh, vCh, vCh2, dON, dOS, dSl, vSl, gSubL, dAug, vAug, isFN, vPar, dPar, vM, dM, isL, mApp, mPopAt, mPop, gIdx, vTIdx, isT, dTIdx, gIx, dFn, vFn, ress, gLen, gIsi5, isTy, kn, gAll, gAny, gInt, gAbs, gMax2, gMin2, gSum, gMax1, gMin1, gSorted, gList, gTuple, dR1, dR2, vR1, vR2, dLRg, dTRg, dLenSet, vLenSet, dSeqI, vSeqI, itemsOf, dRng1, dRng2, vRng1, vRng2, dEnum, dZip2, dZip3, vEnum, vZip2, vZip3, dLC, vLC, dCall, vCall, frzM, cSl, cSls, upR, cRes, atsOf, fnD, ownIn_G, ownG_nil, ownG_fz, ownG_no, ownG_own, wipeE, dStep, lcStep, dYes, vFin, vOut, outR, outE, dLend, vLend, lendE, backE, flatR, lend_fzo, back_fzo, lend_fz, lend_no, lend_own1, lend_own0, back_fz, back_no, back_own1, back_own0, flat_ints, flatO_ints, yPlain, yNil, vYSeq, ySeq, vYield, yYield, yFor, vGen, fzE, gnD, noE, vListG, dListG, gAddI, gMulI, dLit, dFmt, vFmt, dJs, dJoin, gStr, dCallB, vCallB, keepOwn, isOwn, res, frz, frzs, flat, O.bind_ok, O.bind_bad, O.bind_exn, List.nodup_cons, List.nodup_nil, List.not_mem_nil, List.mem_cons, List.mem_singleton, not_false_eq_true, and_true, true_and, List.contains_cons, List.contains_nil, Nat.zero_add, List.getElem?_nil, List.getElem?_cons_zero, List.getElem?_cons_succ, List.set_cons_zero, List.set_cons_succ, Option.map_some, Option.map_none, if_true, if_false, Bool.and_true, Bool.true_and, Bool.and_false, Bool.false_and, Bool.or_true, Bool.true_or, Bool.or_false, Bool.false_or, Bool.not_true, Bool.not_false, List.length_cons, List.length_nil, List.append_nil, List.cons_append, List.nil_append, List.replicate_succ, List.replicate_zero, decide_true, decide_false, ↓reduceIte, Int.cast_ofNat_Int, Int.reduceLE, Int.reduceLT, Int.reduceToNat, Int.reduceAdd, Int.reduceSub, Int.reduceMul, Int.reduceNeg, Int.reduceEq, Int.reduceNe, Int.reduceBEq, Int.reduceBNe, Int.reduceGT, Int.reduceGE, ne_eq, Nat.reduceAdd, Nat.reduceLeDiff, Nat.reduceEqDiff, Nat.reduceSub, Nat.reduceMul, Nat.reduceLT, Nat.reduceBEq, String.reduceEq, reduceCtorEq, beq_self_eq_true, List.map_cons, List.map_nil, List.reverse_nil, e1, e2, e3, List.length_map]
  rw [lcLoop_map D.int (fun _ => .bl true) l _ _ fun x hx => ?_]
  · simp only [dVar, vSlot, dC, dOp2, vOp2, dOpA, vOpA, vAn, An.r, dTst, DL.vBool, vTru, dTru, truth, dAnd, dOr, dNot, dAndV, dOrV, dNotV, dIfE, dNil, dCons, dTup, vTup, dLst, vLst, dSkip, vSeq, dSeq, dIf, dRet, dDrop, vSto, vSet, dSet, vAsg, dAsg, gN, DL.gNil, DL.gCons, gTupD, dFor, vTurn, dUn, gNeg, dMul, vMul, isNew, gAdd, DL.gSub, gII, tt2, cdiv, gFdiv, cmod, gMod, cpow, gPow, gLt, gLe, gGt, gGe, gEq_ii, gNe_ii, dIsN, DL.isNon, dCh, vCh, vCh2, dON, dOS, dSl, vSl, gSubL, dAug, vAug, isFN, vPar, dPar, vM, dM, isL, mApp, mPopAt, mPop, gIdx, vTIdx, isT, dTIdx, gIx, dFn, vFn, ress, gLen, gIsi5, isTy, kn, gAll, gAny, gInt, gAbs, gMax2, gMin2, gSum, gMax1, gMin1, gSorted, gList, gTuple, dR1, dR2, vR1, vR2, dLRg, dTRg, dLenSet, vLenSet, dSeqI, vSeqI, itemsOf, dRng1, dRng2, vRng1, vRng2, dEnum, dZip2, dZip3, vEnum, vZip2, vZip3, dLC, vLC, dCall, vCall, frzM, cSl, cSls, upR, cRes, atsOf, fnD, ownIn_G, ownG_nil, ownG_fz, ownG_no, ownG_own, wipeE, dStep, lcStep, dYes, vFin, vOut, outR, outE, dLend, vLend, lendE, backE, flatR, lend_fzo, back_fzo, lend_fz, lend_no, lend_own1, lend_own0, back_fz, back_no, back_own1, back_own0, flat_ints, flatO_ints, yPlain, yNil, vYSeq, ySeq, vYield, yYield, yFor, vGen, fzE, gnD, noE, vListG, dListG, gAddI, gMulI, dLit, dFmt, vFmt, dJs, dJoin, gStr, dCallB, vCallB, keepOwn, isOwn, res, frz, frzs, flat, O.bind_ok, O.bind_bad, O.bind_exn, List.nodup_cons, List.nodup_nil, List.not_mem_nil, List.mem_cons, List.mem_singleton, not_false_eq_true, and_true, true_and, List.contains_cons, List.contains_nil, Nat.zero_add, List.getElem?_nil, List.getElem?_cons_zero, List.getElem?_cons_succ, List.set_cons_zero, List.set_cons_succ, Option.map_some, Option.map_none, if_true, if_false, Bool.and_true, Bool.true_and, Bool.and_false, Bool.false_and, Bool.or_true, Bool.true_or, Bool.or_false, Bool.false_or, Bool.not_true, Bool.not_false, List.length_cons, List.length_nil, List.append_nil, List.cons_append, List.nil_append, List.replicate_succ, List.replicate_zero, decide_true, decide_false, ↓reduceIte, Int.cast_ofNat_Int, Int.reduceLE, Int.reduceLT, Int.reduceToNat, Int.reduceAdd, Int.reduceSub, Int.reduceMul, Int.reduceNeg, Int.reduceEq, Int.reduceNe, Int.reduceBEq, Int.reduceBNe, Int.reduceGT, Int.reduceGE, ne_eq, Nat.reduceAdd, Nat.reduceLeDiff, Nat.reduceEqDiff, Nat.reduceSub, Nat.reduceMul, Nat.reduceLT, Nat.reduceBEq, String.reduceEq, reduceCtorEq, beq_self_eq_true, List.map_cons, List.map_nil, List.reverse_nil, all_true, all_id]
  · simp only [dVar, vSlot, dC, dOp2, vOp2, dOpA, vOpA, vAn, An.r, dTst, DL.vBool, vTru, dTru, truth, dAnd, dOr, dNot, dAndV, dOrV, dNotV, dIfE, dNil, dCons, dTup, vTup, dLst, vLst, dSkip, vSeq, dSeq, dIf, dRet, dDrop, vSto, vSet, dSet, vAsg, dAsg, gN, DL.gNil, DL.gCons, gTupD, dFor, vTurn, dUn, gNeg, dMul, vMul, isNew, gAdd, DL.gSub, gII, tt2, cdiv, gFdiv, cmod, gMod, cpow, gPow, gLt, gLe, gGt, gGe, gEq_ii, gNe_ii, dIsN, DL.isNon, dCh, vCh, vCh2, dON, dOS, dSl, vSl, gSubL, dAug, vAug, isFN, vPar, dPar, vM, dM, isL, mApp, mPopAt, mPop, gIdx, vTIdx, isT, dTIdx, gIx, dFn, vFn, ress, gLen, gIsi5, isTy, kn, gAll, gAny, gInt, gAbs, gMax2, gMin2, gSum, gMax1, gMin1, gSorted, gList, gTuple, dR1, dR2, vR1, vR2, dLRg, dTRg, dLenSet, vLenSet, dSeqI, vSeqI, itemsOf, dRng1, dRng2, vRng1, vRng2, dEnum, dZip2, dZip3, vEnum, vZip2, vZip3, dLC, vLC, dCall, vCall, frzM, cSl, cSls, upR, cRes, atsOf, fnD, ownIn_G, ownG_nil, ownG_fz, ownG_no, ownG_own, wipeE, dStep, lcStep, dYes, vFin, vOut, outR, outE, dLend, vLend, lendE, backE, flatR, lend_fzo, back_fzo, lend_fz, lend_no, lend_own1, lend_own0, back_fz, back_no, back_own1, back_own0, flat_ints, flatO_ints, yPlain, yNil, vYSeq, ySeq, vYield, yYield, yFor, vGen, fzE, gnD, noE, vListG, dListG, gAddI, gMulI, dLit, dFmt, vFmt, dJs, dJoin, gStr, dCallB, vCallB, keepOwn, isOwn, res, frz, frzs, flat, O.bind_ok, O.bind_bad, O.bind_exn, List.nodup_cons, List.nodup_nil, List.not_mem_nil, List.mem_cons, List.mem_singleton, not_false_eq_true, and_true, true_and, List.contains_cons, List.contains_nil, Nat.zero_add, List.getElem?_nil, List.getElem?_cons_zero, List.getElem?_cons_succ, List.set_cons_zero, List.set_cons_succ, Option.map_some, Option.map_none, if_true, if_false, Bool.and_true, Bool.true_and, Bool.and_false, Bool.false_and, Bool.or_true, Bool.true_or, Bool.or_false, Bool.false_or, Bool.not_true, Bool.not_false, List.length_cons, List.length_nil, List.append_nil, List.cons_append, List.nil_append, List.replicate_succ, List.replicate_zero, decide_true, decide_false, ↓reduceIte, Int.cast_ofNat_Int, Int.reduceLE, Int.reduceLT, Int.reduceToNat, Int.reduceAdd, Int.reduceSub, Int.reduceMul, Int.reduceNeg, Int.reduceEq, Int.reduceNe, Int.reduceBEq, Int.reduceBNe, Int.reduceGT, Int.reduceGE, ne_eq, Nat.reduceAdd, Nat.reduceLeDiff, Nat.reduceEqDiff, Nat.reduceSub, Nat.reduceMul, Nat.reduceLT, Nat.reduceBEq, String.reduceEq, reduceCtorEq, beq_self_eq_true, List.map_cons, List.map_nil, List.reverse_nil, x_is_from, h x hx]
theorem dd_self : ∀ {ns : List Int}, ns.Nodup → dd ns = ns
  | [], _ => rfl
  | n :: ns, h => by
    rw [List.nodup_cons] at h
    unfold dd
    rw [if_neg (by simpa using h.1), dd_self h.2]
theorem x_good_index (n : Nat) (x : List Int) (h0 : n ≤ 18) (hl : x.length = n) (h : ∀ v ∈ x, 1 ≤ v ∧ v ≤ (n : Int)) (nd : x.Nodup) : φ_good_index [.fz (.int n), .fz (tI x)] = .ok (.fz (.bl true)) [.fz (.int n), .fz (tI x)] := by
  unfold φ_good_index tI
  have e3 : x.length ≤ 1000000 := by omega
  have e4 : x.length ≤ 4000 := by omega
  have e5 : ((x.length : Int) = (n : Int)) := by omega
  have e6 : gEq (.int n) (.int n) = some (.bl true) := by simp [gEq, okq, sok, dep, deq]
  have e7 : gNe (.int n) (.int n) = some (.bl false) := by simp [gNe, okq, sok, dep, deq]
  simp only [dVar, vSlot, dC, dOp2, vOp2, dOpA, vOpA, vAn, An.r, dTst, DL.vBool, vTru, dTru, truth, dAnd, dOr, dNot, dAndV, dOrV, dNotV, dIfE, dNil, dCons, dTup, vTup, dLst, vLst, dSkip, vSeq, dSeq, dIf, dRet, dDrop, vSto, vSet, dSet, vAsg, dAsg, gN, DL.gNil, DL.gCons, gTupD, dFor, vTurn, dUn, gNeg, dMul, vMul, isNew, gAdd, DL.gSub, gII, tt2, cdiv, gFdiv, cmod, gMod, cpow, gPow, gLt, gLe, gGt, gGe, dIsN, DL.isNon, dCh, vCh, vCh2, dON, dOS, dSl, vSl, gSubL, dAug, vAug, isFN, vPar, dPar, vM, dM, isL, mApp, mPopAt, mPop, gIdx, vTIdx, isT, dTIdx, gIx, dFn, vFn, ress, gLen, gIsi5, isTy, kn, gAll, gAny, gInt, gAbs, gMax2, gMin2, gSum, gMax1, gMin1, gSorted, gList, gTuple, dR1, dR2, vR1, vR2, dLRg, dTRg, dLenSet, vLenSet, dSeqI, vSeqI, itemsOf, dRng1, dRng2, vRng1, vRng2, dEnum, dZip2, dZip3, vEnum, vZip2, vZip3, dLC, vLC, dCall, vCall, frzM, cSl, cSls, upR, cRes, atsOf, fnD, ownIn_G, ownG_nil, ownG_fz, ownG_no, ownG_own, wipeE, dStep, lcStep, dYes, vFin, vOut, outR, outE, dLend, vLend, lendE, backE, flatR, lend_fzo, back_fzo, lend_fz, lend_no, lend_own1, lend_own0, back_fz, back_no, back_own1, back_own0, flat_ints, flatO_ints, yPlain, yNil, vYSeq, ySeq, vYield, yYield, yFor, vGen, fzE, gnD, noE, vListG, dListG, gAddI, gMulI, dLit, dFmt, vFmt, dJs, dJoin, gStr, dCallB, vCallB, keepOwn, isOwn, res, frz, frzs, flat, O.bind_ok, O.bind_bad, O.bind_exn, List.nodup_cons, List.nodup_nil, List.not_mem_nil, List.mem_cons, List.mem_singleton, not_false_eq_true, and_true, true_and, List.contains_cons, List.contains_nil, Nat.zero_add, List.getElem?_nil, List.getElem?_cons_zero, List.getElem?_cons_succ, List.set_cons_zero, List.set_cons_succ, Option.map_some, Option.map_none, if_true, if_false, Bool.and_true, Bool.true_and, Bool.and_false, Bool.false_and, Bool.or_true, Bool.true_or, Bool.or_false, Bool.false_or, Bool.not_true, Bool.not_false, List.length_cons, List.length_nil, List.append_nil, List.cons_append, List.nil_append, List.replicate_succ, List.replicate_zero, decide_true, decide_false, ↓reduceIte, Int.cast_ofNat_Int, Int.reduceLE, Int.reduceLT, Int.reduceToNat, Int.reduceAdd, Int.reduceSub, Int.reduceMul, Int.reduceNeg, Int.reduceEq, Int.reduceNe, Int.reduceBEq, Int.reduceBNe, Int.reduceGT, Int.reduceGE, ne_eq, Nat.reduceAdd, Nat.reduceLeDiff, Nat.reduceEqDiff, Nat.reduceSub, Nat.reduceMul, Nat.reduceLT, Nat.reduceBEq, String.reduceEq, reduceCtorEq, beq_self_eq_true, List.map_cons, List.map_nil, List.reverse_nil, e3, e5, e7, List.length_map]
  rw [lcLoop_map D.int (fun _ => .bl true) x _ _ fun v hv => ?_]
  · simp only [dVar, vSlot, dC, dOp2, vOp2, dOpA, vOpA, vAn, An.r, dTst, DL.vBool, vTru, dTru, truth, dAnd, dOr, dNot, dAndV, dOrV, dNotV, dIfE, dNil, dCons, dTup, vTup, dLst, vLst, dSkip, vSeq, dSeq, dIf, dRet, dDrop, vSto, vSet, dSet, vAsg, dAsg, gN, DL.gNil, DL.gCons, gTupD, dFor, vTurn, dUn, gNeg, dMul, vMul, isNew, gAdd, DL.gSub, gII, tt2, cdiv, gFdiv, cmod, gMod, cpow, gPow, gLt, gLe, gGt, gGe, dIsN, DL.isNon, dCh, vCh, vCh2, dON, dOS, dSl, vSl, gSubL, dAug, vAug, isFN, vPar, dPar, vM, dM, isL, mApp, mPopAt, mPop, gIdx, vTIdx, isT, dTIdx, gIx, dFn, vFn, ress, gLen, gIsi5, isTy, kn, gAll, gAny, gInt, gAbs, gMax2, gMin2, gSum, gMax1, gMin1, gSorted, gList, gTuple, dR1, dR2, vR1, vR2, dLRg, dTRg, dLenSet, vLenSet, dSeqI, vSeqI, itemsOf, dRng1, dRng2, vRng1, vRng2, dEnum, dZip2, dZip3, vEnum, vZip2, vZip3, dLC, vLC, dCall, vCall, frzM, cSl, cSls, upR, cRes, atsOf, fnD, ownIn_G, ownG_nil, ownG_fz, ownG_no, ownG_own, wipeE, dStep, lcStep, dYes, vFin, vOut, outR, outE, dLend, vLend, lendE, backE, flatR, lend_fzo, back_fzo, lend_fz, lend_no, lend_own1, lend_own0, back_fz, back_no, back_own1, back_own0, flat_ints, flatO_ints, yPlain, yNil, vYSeq, ySeq, vYield, yYield, yFor, vGen, fzE, gnD, noE, vListG, dListG, gAddI, gMulI, dLit, dFmt, vFmt, dJs, dJoin, gStr, dCallB, vCallB, keepOwn, isOwn, res, frz, frzs, flat, O.bind_ok, O.bind_bad, O.bind_exn, List.nodup_cons, List.nodup_nil, List.not_mem_nil, List.mem_cons, List.mem_singleton, not_false_eq_true, and_true, true_and, List.contains_cons, List.contains_nil, Nat.zero_add, List.getElem?_nil, List.getElem?_cons_zero, List.getElem?_cons_succ, List.set_cons_zero, List.set_cons_succ, Option.map_some, Option.map_none, if_true, if_false, Bool.and_true, Bool.true_and, Bool.and_false, Bool.false_and, Bool.or_true, Bool.true_or, Bool.or_false, Bool.false_or, Bool.not_true, Bool.not_false, List.length_cons, List.length_nil, List.append_nil, List.cons_append, List.nil_append, List.replicate_succ, List.replicate_zero, decide_true, decide_false, ↓reduceIte, Int.cast_ofNat_Int, Int.reduceLE, Int.reduceLT, Int.reduceToNat, Int.reduceAdd, Int.reduceSub, Int.reduceMul, Int.reduceNeg, Int.reduceEq, Int.reduceNe, Int.reduceBEq, Int.reduceBNe, Int.reduceGT, Int.reduceGE, ne_eq, Nat.reduceAdd, Nat.reduceLeDiff, Nat.reduceEqDiff, Nat.reduceSub, Nat.reduceMul, Nat.reduceLT, Nat.reduceBEq, String.reduceEq, reduceCtorEq, beq_self_eq_true, List.map_cons, List.map_nil, List.reverse_nil, all_true, all_id, toIs_of, e4, dd_self nd, e5, e6]
  · simp only [dVar, vSlot, dC, dOp2, vOp2, dOpA, vOpA, vAn, An.r, dTst, DL.vBool, vTru, dTru, truth, dAnd, dOr, dNot, dAndV, dOrV, dNotV, dIfE, dNil, dCons, dTup, vTup, dLst, vLst, dSkip, vSeq, dSeq, dIf, dRet, dDrop, vSto, vSet, dSet, vAsg, dAsg, gN, DL.gNil, DL.gCons, gTupD, dFor, vTurn, dUn, gNeg, dMul, vMul, isNew, gAdd, DL.gSub, gII, tt2, cdiv, gFdiv, cmod, gMod, cpow, gPow, gLt, gLe, gGt, gGe, gEq_ii, gNe_ii, dIsN, DL.isNon, dCh, vCh, vCh2, dON, dOS, dSl, vSl, gSubL, dAug, vAug, isFN, vPar, dPar, vM, dM, isL, mApp, mPopAt, mPop, gIdx, vTIdx, isT, dTIdx, gIx, dFn, vFn, ress, gLen, gIsi5, isTy, kn, gAll, gAny, gInt, gAbs, gMax2, gMin2, gSum, gMax1, gMin1, gSorted, gList, gTuple, dR1, dR2, vR1, vR2, dLRg, dTRg, dLenSet, vLenSet, dSeqI, vSeqI, itemsOf, dRng1, dRng2, vRng1, vRng2, dEnum, dZip2, dZip3, vEnum, vZip2, vZip3, dLC, vLC, dCall, vCall, frzM, cSl, cSls, upR, cRes, atsOf, fnD, ownIn_G, ownG_nil, ownG_fz, ownG_no, ownG_own, wipeE, dStep, lcStep, dYes, vFin, vOut, outR, outE, dLend, vLend, lendE, backE, flatR, lend_fzo, back_fzo, lend_fz, lend_no, lend_own1, lend_own0, back_fz, back_no, back_own1, back_own0, flat_ints, flatO_ints, yPlain, yNil, vYSeq, ySeq, vYield, yYield, yFor, vGen, fzE, gnD, noE, vListG, dListG, gAddI, gMulI, dLit, dFmt, vFmt, dJs, dJoin, gStr, dCallB, vCallB, keepOwn, isOwn, res, frz, frzs, flat, O.bind_ok, O.bind_bad, O.bind_exn, List.nodup_cons, List.nodup_nil, List.not_mem_nil, List.mem_cons, List.mem_singleton, not_false_eq_true, and_true, true_and, List.contains_cons, List.contains_nil, Nat.zero_add, List.getElem?_nil, List.getElem?_cons_zero, List.getElem?_cons_succ, List.set_cons_zero, List.set_cons_succ, Option.map_some, Option.map_none, if_true, if_false, Bool.and_true, Bool.true_and, Bool.and_false, Bool.false_and, Bool.or_true, Bool.true_or, Bool.or_false, Bool.false_or, Bool.not_true, Bool.not_false, List.length_cons, List.length_nil, List.append_nil, List.cons_append, List.nil_append, List.replicate_succ, List.replicate_zero, decide_true, decide_false, ↓reduceIte, Int.cast_ofNat_Int, Int.reduceLE, Int.reduceLT, Int.reduceToNat, Int.reduceAdd, Int.reduceSub, Int.reduceMul, Int.reduceNeg, Int.reduceEq, Int.reduceNe, Int.reduceBEq, Int.reduceBNe, Int.reduceGT, Int.reduceGE, ne_eq, Nat.reduceAdd, Nat.reduceLeDiff, Nat.reduceEqDiff, Nat.reduceSub, Nat.reduceMul, Nat.reduceLT, Nat.reduceBEq, String.reduceEq, reduceCtorEq, beq_self_eq_true, List.map_cons, List.map_nil, List.reverse_nil, x_is_from, h v hv]
def sgn (i : Int) : Int := (if i > 0 then 1 else 0) - (if i < 0 then 1 else 0)
theorem x_sign (i : Int) : φ_sign [.fz (.int i)] = .ok (.fz (.int (sgn i))) [.fz (.int i)] := by
  unfold φ_sign sgn
  simp only [dVar, vSlot, dC, dOp2, vOp2, dOpA, vOpA, vAn, An.r, dTst, DL.vBool, vTru, dTru, truth, dAnd, dOr, dNot, dAndV, dOrV, dNotV, dIfE, dNil, dCons, dTup, vTup, dLst, vLst, dSkip, vSeq, dSeq, dIf, dRet, dDrop, vSto, vSet, dSet, vAsg, dAsg, gN, DL.gNil, DL.gCons, gTupD, dFor, vTurn, dUn, gNeg, dMul, vMul, isNew, gAdd, DL.gSub, gII, tt2, cdiv, gFdiv, cmod, gMod, cpow, gPow, gLt, gLe, gGt, gGe, gEq_ii, gNe_ii, dIsN, DL.isNon, dCh, vCh, vCh2, dON, dOS, dSl, vSl, gSubL, dAug, vAug, isFN, vPar, dPar, vM, dM, isL, mApp, mPopAt, mPop, gIdx, vTIdx, isT, dTIdx, gIx, dFn, vFn, ress, gLen, gIsi5, isTy, kn, gAll, gAny, gInt, gAbs, gMax2, gMin2, gSum, gMax1, gMin1, gSorted, gList, gTuple, dR1, dR2, vR1, vR2, dLRg, dTRg, dLenSet, vLenSet, dSeqI, vSeqI, itemsOf, dRng1, dRng2, vRng1, vRng2, dEnum, dZip2, dZip3, vEnum, vZip2, vZip3, dLC, vLC, dCall, vCall, frzM, cSl, cSls, upR, cRes, atsOf, fnD, ownIn_G, ownG_nil, ownG_fz, ownG_no, ownG_own, wipeE, dStep, lcStep, dYes, vFin, vOut, outR, outE, dLend, vLend, lendE, backE, flatR, lend_fzo, back_fzo, lend_fz, lend_no, lend_own1, lend_own0, back_fz, back_no, back_own1, back_own0, flat_ints, flatO_ints, yPlain, yNil, vYSeq, ySeq, vYield, yYield, yFor, vGen, fzE, gnD, noE, vListG, dListG, gAddI, gMulI, dLit, dFmt, vFmt, dJs, dJoin, gStr, dCallB, vCallB, keepOwn, isOwn, res, frz, frzs, flat, O.bind_ok, O.bind_bad, O.bind_exn, List.nodup_cons, List.nodup_nil, List.not_mem_nil, List.mem_cons, List.mem_singleton, not_false_eq_true, and_true, true_and, List.contains_cons, List.contains_nil, Nat.zero_add, List.getElem?_nil, List.getElem?_cons_zero, List.getElem?_cons_succ, List.set_cons_zero, List.set_cons_succ, Option.map_some, Option.map_none, if_true, if_false, Bool.and_true, Bool.true_and, Bool.and_false, Bool.false_and, Bool.or_true, Bool.true_or, Bool.or_false, Bool.false_or, Bool.not_true, Bool.not_false, List.length_cons, List.length_nil, List.append_nil, List.cons_append, List.nil_append, List.replicate_succ, List.replicate_zero, decide_true, decide_false, ↓reduceIte, Int.cast_ofNat_Int, Int.reduceLE, Int.reduceLT, Int.reduceToNat, Int.reduceAdd, Int.reduceSub, Int.reduceMul, Int.reduceNeg, Int.reduceEq, Int.reduceNe, Int.reduceBEq, Int.reduceBNe, Int.reduceGT, Int.reduceGE, ne_eq, Nat.reduceAdd, Nat.reduceLeDiff, Nat.reduceEqDiff, Nat.reduceSub, Nat.reduceMul, Nat.reduceLT, Nat.reduceBEq, String.reduceEq, reduceCtorEq, beq_self_eq_true, List.map_cons, List.map_nil, List.reverse_nil]
  by_cases h : i > 0
  · have h' : ¬ i < 0 := by omega
    simp only [dVar, vSlot, dC, dOp2, vOp2, dOpA, vOpA, vAn, An.r, dTst, DL.vBool, vTru, dTru, truth, dAnd, dOr, dNot, dAndV, dOrV, dNotV, dIfE, dNil, dCons, dTup, vTup, dLst, vLst, dSkip, vSeq, dSeq, dIf, dRet, dDrop, vSto, vSet, dSet, vAsg, dAsg, gN, DL.gNil, DL.gCons, gTupD, dFor, vTurn, dUn, gNeg, dMul, vMul, isNew, gAdd, DL.gSub, gII, tt2, cdiv, gFdiv, cmod, gMod, cpow, gPow, gLt, gLe, gGt, gGe, gEq_ii, gNe_ii, dIsN, DL.isNon, dCh, vCh, vCh2, dON, dOS, dSl, vSl, gSubL, dAug, vAug, isFN, vPar, dPar, vM, dM, isL, mApp, mPopAt, mPop, gIdx, vTIdx, isT, dTIdx, gIx, dFn, vFn, ress, gLen, gIsi5, isTy, kn, gAll, gAny, gInt, gAbs, gMax2, gMin2, gSum, gMax1, gMin1, gSorted, gList, gTuple, dR1, dR2, vR1, vR2, dLRg, dTRg, dLenSet, vLenSet, dSeqI, vSeqI, itemsOf, dRng1, dRng2, vRng1, vRng2, dEnum, dZip2, dZip3, vEnum, vZip2, vZip3, dLC, vLC, dCall, vCall, frzM, cSl, cSls, upR, cRes, atsOf, fnD, ownIn_G, ownG_nil, ownG_fz, ownG_no, ownG_own, wipeE, dStep, lcStep, dYes, vFin, vOut, outR, outE, dLend, vLend, lendE, backE, flatR, lend_fzo, back_fzo, lend_fz, lend_no, lend_own1, lend_own0, back_fz, back_no, back_own1, back_own0, flat_ints, flatO_ints, yPlain, yNil, vYSeq, ySeq, vYield, yYield, yFor, vGen, fzE, gnD, noE, vListG, dListG, gAddI, gMulI, dLit, dFmt, vFmt, dJs, dJoin, gStr, dCallB, vCallB, keepOwn, isOwn, res, frz, frzs, flat, O.bind_ok, O.bind_bad, O.bind_exn, List.nodup_cons, List.nodup_nil, List.not_mem_nil, List.mem_cons, List.mem_singleton, not_false_eq_true, and_true, true_and, List.contains_cons, List.contains_nil, Nat.zero_add, List.getElem?_nil, List.getElem?_cons_zero, List.getElem?_cons_succ, List.set_cons_zero, List.set_cons_succ, Option.map_some, Option.map_none, if_true, if_false, Bool.and_true, Bool.true_and, Bool.and_false, Bool.false_and, Bool.or_true, Bool.true_or, Bool.or_false, Bool.false_or, Bool.not_true, Bool.not_false, List.length_cons, List.length_nil, List.append_nil, List.cons_append, List.nil_append, List.replicate_succ, List.replicate_zero, decide_true, decide_false, ↓reduceIte, Int.cast_ofNat_Int, Int.reduceLE, Int.reduceLT, Int.reduceToNat, Int.reduceAdd, Int.reduceSub, Int.reduceMul, Int.reduceNeg, Int.reduceEq, Int.reduceNe, Int.reduceBEq, Int.reduceBNe, Int.reduceGT, Int.reduceGE, ne_eq, Nat.reduceAdd, Nat.reduceLeDiff, Nat.reduceEqDiff, Nat.reduceSub, Nat.reduceMul, Nat.reduceLT, Nat.reduceBEq, String.reduceEq, reduceCtorEq, beq_self_eq_true, List.map_cons, List.map_nil, List.reverse_nil, h, h']
  · by_cases h' : i < 0
    · simp only [dVar, vSlot, dC, dOp2, vOp2, dOpA, vOpA, vAn, An.r, dTst, DL.vBool, vTru, dTru, truth, dAnd, dOr, dNot, dAndV, dOrV, dNotV, dIfE, dNil, dCons, dTup, vTup, dLst, vLst, dSkip, vSeq, dSeq, dIf, dRet, dDrop, vSto, vSet, dSet, vAsg, dAsg, gN, DL.gNil, DL.gCons, gTupD, dFor, vTurn, dUn, gNeg, dMul, vMul, isNew, gAdd, DL.gSub, gII, tt2, cdiv, gFdiv, cmod, gMod, cpow, gPow, gLt, gLe, gGt, gGe, gEq_ii, gNe_ii, dIsN, DL.isNon, dCh, vCh, vCh2, dON, dOS, dSl, vSl, gSubL, dAug, vAug, isFN, vPar, dPar, vM, dM, isL, mApp, mPopAt, mPop, gIdx, vTIdx, isT, dTIdx, gIx, dFn, vFn, ress, gLen, gIsi5, isTy, kn, gAll, gAny, gInt, gAbs, gMax2, gMin2, gSum, gMax1, gMin1, gSorted, gList, gTuple, dR1, dR2, vR1, vR2, dLRg, dTRg, dLenSet, vLenSet, dSeqI, vSeqI, itemsOf, dRng1, dRng2, vRng1, vRng2, dEnum, dZip2, dZip3, vEnum, vZip2, vZip3, dLC, vLC, dCall, vCall, frzM, cSl, cSls, upR, cRes, atsOf, fnD, ownIn_G, ownG_nil, ownG_fz, ownG_no, ownG_own, wipeE, dStep, lcStep, dYes, vFin, vOut, outR, outE, dLend, vLend, lendE, backE, flatR, lend_fzo, back_fzo, lend_fz, lend_no, lend_own1, lend_own0, back_fz, back_no, back_own1, back_own0, flat_ints, flatO_ints, yPlain, yNil, vYSeq, ySeq, vYield, yYield, yFor, vGen, fzE, gnD, noE, vListG, dListG, gAddI, gMulI, dLit, dFmt, vFmt, dJs, dJoin, gStr, dCallB, vCallB, keepOwn, isOwn, res, frz, frzs, flat, O.bind_ok, O.bind_bad, O.bind_exn, List.nodup_cons, List.nodup_nil, List.not_mem_nil, List.mem_cons, List.mem_singleton, not_false_eq_true, and_true, true_and, List.contains_cons, List.contains_nil, Nat.zero_add, List.getElem?_nil, List.getElem?_cons_zero, List.getElem?_cons_succ, List.set_cons_zero, List.set_cons_succ, Option.map_some, Option.map_none, if_true, if_false, Bool.and_true, Bool.true_and, Bool.and_false, Bool.false_and, Bool.or_true, Bool.true_or, Bool.or_false, Bool.false_or, Bool.not_true, Bool.not_false, List.length_cons, List.length_nil, List.append_nil, List.cons_append, List.nil_append, List.replicate_succ, List.replicate_zero, decide_true, decide_false, ↓reduceIte, Int.cast_ofNat_Int, Int.reduceLE, Int.reduceLT, Int.reduceToNat, Int.reduceAdd, Int.reduceSub, Int.reduceMul, Int.reduceNeg, Int.reduceEq, Int.reduceNe, Int.reduceBEq, Int.reduceBNe, Int.reduceGT, Int.reduceGE, ne_eq, Nat.reduceAdd, Nat.reduceLeDiff, Nat.reduceEqDiff, Nat.reduceSub, Nat.reduceMul, Nat.reduceLT, Nat.reduceBEq, String.reduceEq, reduceCtorEq, beq_self_eq_true, List.map_cons, List.map_nil, List.reverse_nil, h, h']
    · simp only [dVar, vSlot, dC, dOp2, vOp2, dOpA, vOpA, vAn, An.r, dTst, DL.vBool, vTru, dTru, truth, dAnd, dOr, dNot, dAndV, dOrV, dNotV, dIfE, dNil, dCons, dTup, vTup, dLst, vLst, dSkip, vSeq, dSeq, dIf, dRet, dDrop, vSto, vSet, dSet, vAsg, dAsg, gN, DL.gNil, DL.gCons, gTupD, dFor, vTurn, dUn, gNeg, dMul, vMul, isNew, gAdd, DL.gSub, gII, tt2, cdiv, gFdiv, cmod, gMod, cpow, gPow, gLt, gLe, gGt, gGe, gEq_ii, gNe_ii, dIsN, DL.isNon, dCh, vCh, vCh2, dON, dOS, dSl, vSl, gSubL, dAug, vAug, isFN, vPar, dPar, vM, dM, isL, mApp, mPopAt, mPop, gIdx, vTIdx, isT, dTIdx, gIx, dFn, vFn, ress, gLen, gIsi5, isTy, kn, gAll, gAny, gInt, gAbs, gMax2, gMin2, gSum, gMax1, gMin1, gSorted, gList, gTuple, dR1, dR2, vR1, vR2, dLRg, dTRg, dLenSet, vLenSet, dSeqI, vSeqI, itemsOf, dRng1, dRng2, vRng1, vRng2, dEnum, dZip2, dZip3, vEnum, vZip2, vZip3, dLC, vLC, dCall, vCall, frzM, cSl, cSls, upR, cRes, atsOf, fnD, ownIn_G, ownG_nil, ownG_fz, ownG_no, ownG_own, wipeE, dStep, lcStep, dYes, vFin, vOut, outR, outE, dLend, vLend, lendE, backE, flatR, lend_fzo, back_fzo, lend_fz, lend_no, lend_own1, lend_own0, back_fz, back_no, back_own1, back_own0, flat_ints, flatO_ints, yPlain, yNil, vYSeq, ySeq, vYield, yYield, yFor, vGen, fzE, gnD, noE, vListG, dListG, gAddI, gMulI, dLit, dFmt, vFmt, dJs, dJoin, gStr, dCallB, vCallB, keepOwn, isOwn, res, frz, frzs, flat, O.bind_ok, O.bind_bad, O.bind_exn, List.nodup_cons, List.nodup_nil, List.not_mem_nil, List.mem_cons, List.mem_singleton, not_false_eq_true, and_true, true_and, List.contains_cons, List.contains_nil, Nat.zero_add, List.getElem?_nil, List.getElem?_cons_zero, List.getElem?_cons_succ, List.set_cons_zero, List.set_cons_succ, Option.map_some, Option.map_none, if_true, if_false, Bool.and_true, Bool.true_and, Bool.and_false, Bool.false_and, Bool.or_true, Bool.true_or, Bool.or_false, Bool.false_or, Bool.not_true, Bool.not_false, List.length_cons, List.length_nil, List.append_nil, List.cons_append, List.nil_append, List.replicate_succ, List.replicate_zero, decide_true, decide_false, ↓reduceIte, Int.cast_ofNat_Int, Int.reduceLE, Int.reduceLT, Int.reduceToNat, Int.reduceAdd, Int.reduceSub, Int.reduceMul, Int.reduceNeg, Int.reduceEq, Int.reduceNe, Int.reduceBEq, Int.reduceBNe, Int.reduceGT, Int.reduceGE, ne_eq, Nat.reduceAdd, Nat.reduceLeDiff, Nat.reduceEqDiff, Nat.reduceSub, Nat.reduceMul, Nat.reduceLT, Nat.reduceBEq, String.reduceEq, reduceCtorEq, beq_self_eq_true, List.map_cons, List.map_nil, List.reverse_nil, h, h']
def atH (n p s : Int) : Int := if s < 0 then -((-s + n - p).fdiv n) else (s + n - p).fdiv n
def hl (n k : Int) (f s x : List Int) : List Int := (f.zip (s.zip x)).map fun t => sgn (t.2.1 - t.1 + atH n t.2.2 k)
theorem x_holes_of {n : Nat} {f s x : List Int} (m : VM n f s x) (k : Int) : φ_holes_of [.fz (mD f s x), .fz (.int k)] = .ok (.new (.lst ((hl n k f s x).map .int))) [.fz (mD f s x), .fz (.int k)] := by
  have n1 := m.n1
  have n2 := m.n2
  have hz : (f.zip (s.zip x)).length ≤ 1000000 := by rw [List.length_zip, List.length_zip, m.lf]; omega
  unfold φ_holes_of mD tI
  simp only [dVar, vSlot, dC, dOp2, vOp2, dOpA, vOpA, vAn, An.r, dTst, DL.vBool, vTru, dTru, truth, dAnd, dOr, dNot, dAndV, dOrV, dNotV, dIfE, dNil, dCons, dTup, vTup, dLst, vLst, dSkip, vSeq, dSeq, dIf, dRet, dDrop, vSto, vSet, dSet, vAsg, dAsg, gN, DL.gNil, DL.gCons, gTupD, dFor, vTurn, dUn, gNeg, dMul, vMul, isNew, gAdd, DL.gSub, gII, tt2, cdiv, gFdiv, cmod, gMod, cpow, gPow, gLt, gLe, gGt, gGe, gEq_ii, gNe_ii, dIsN, DL.isNon, dCh, vCh, vCh2, dON, dOS, dSl, vSl, gSubL, dAug, vAug, isFN, vPar, dPar, vM, dM, isL, mApp, mPopAt, mPop, gIdx, vTIdx, isT, dTIdx, gIx, dFn, vFn, ress, gLen, gIsi5, isTy, kn, gAll, gAny, gInt, gAbs, gMax2, gMin2, gSum, gMax1, gMin1, gSorted, gList, gTuple, dR1, dR2, vR1, vR2, dLRg, dTRg, dLenSet, vLenSet, dSeqI, vSeqI, itemsOf, dRng1, dRng2, vRng1, vRng2, dEnum, dZip2, dZip3, vEnum, vZip2, vZip3, dLC, vLC, dCall, vCall, frzM, cSl, cSls, upR, cRes, atsOf, fnD, ownIn_G, ownG_nil, ownG_fz, ownG_no, ownG_own, wipeE, dStep, lcStep, dYes, vFin, vOut, outR, outE, dLend, vLend, lendE, backE, flatR, lend_fzo, back_fzo, lend_fz, lend_no, lend_own1, lend_own0, back_fz, back_no, back_own1, back_own0, flat_ints, flatO_ints, yPlain, yNil, vYSeq, ySeq, vYield, yYield, yFor, vGen, fzE, gnD, noE, vListG, dListG, gAddI, gMulI, dLit, dFmt, vFmt, dJs, dJoin, gStr, dCallB, vCallB, keepOwn, isOwn, res, frz, frzs, flat, O.bind_ok, O.bind_bad, O.bind_exn, List.nodup_cons, List.nodup_nil, List.not_mem_nil, List.mem_cons, List.mem_singleton, not_false_eq_true, and_true, true_and, List.contains_cons, List.contains_nil, Nat.zero_add, List.getElem?_nil, List.getElem?_cons_zero, List.getElem?_cons_succ, List.set_cons_zero, List.set_cons_succ, Option.map_some, Option.map_none, if_true, if_false, Bool.and_true, Bool.true_and, Bool.and_false, Bool.false_and, Bool.or_true, Bool.true_or, Bool.or_false, Bool.false_or, Bool.not_true, Bool.not_false, List.length_cons, List.length_nil, List.append_nil, List.cons_append, List.nil_append, List.replicate_succ, List.replicate_zero, decide_true, decide_false, ↓reduceIte, Int.cast_ofNat_Int, Int.reduceLE, Int.reduceLT, Int.reduceToNat, Int.reduceAdd, Int.reduceSub, Int.reduceMul, Int.reduceNeg, Int.reduceEq, Int.reduceNe, Int.reduceBEq, Int.reduceBNe, Int.reduceGT, Int.reduceGE, ne_eq, Nat.reduceAdd, Nat.reduceLeDiff, Nat.reduceEqDiff, Nat.reduceSub, Nat.reduceMul, Nat.reduceLT, Nat.reduceBEq, String.reduceEq, reduceCtorEq, beq_self_eq_true, List.map_cons, List.map_nil, List.reverse_nil, zip3_e, List.length_map, hz]
  rw [lcLoop_map e3 (fun t => .int (sgn (t.2.1 - t.1 + atH n t.2.2 k))) (f.zip (s.zip x)) _ _ fun t ht => ?_]
  · unfold hl
    simp only [dVar, vSlot, dC, dOp2, vOp2, dOpA, vOpA, vAn, An.r, dTst, DL.vBool, vTru, dTru, truth, dAnd, dOr, dNot, dAndV, dOrV, dNotV, dIfE, dNil, dCons, dTup, vTup, dLst, vLst, dSkip, vSeq, dSeq, dIf, dRet, dDrop, vSto, vSet, dSet, vAsg, dAsg, gN, DL.gNil, DL.gCons, gTupD, dFor, vTurn, dUn, gNeg, dMul, vMul, isNew, gAdd, DL.gSub, gII, tt2, cdiv, gFdiv, cmod, gMod, cpow, gPow, gLt, gLe, gGt, gGe, gEq_ii, gNe_ii, dIsN, DL.isNon, dCh, vCh, vCh2, dON, dOS, dSl, vSl, gSubL, dAug, vAug, isFN, vPar, dPar, vM, dM, isL, mApp, mPopAt, mPop, gIdx, vTIdx, isT, dTIdx, gIx, dFn, vFn, ress, gLen, gIsi5, isTy, kn, gAll, gAny, gInt, gAbs, gMax2, gMin2, gSum, gMax1, gMin1, gSorted, gList, gTuple, dR1, dR2, vR1, vR2, dLRg, dTRg, dLenSet, vLenSet, dSeqI, vSeqI, itemsOf, dRng1, dRng2, vRng1, vRng2, dEnum, dZip2, dZip3, vEnum, vZip2, vZip3, dLC, vLC, dCall, vCall, frzM, cSl, cSls, upR, cRes, atsOf, fnD, ownIn_G, ownG_nil, ownG_fz, ownG_no, ownG_own, wipeE, dStep, lcStep, dYes, vFin, vOut, outR, outE, dLend, vLend, lendE, backE, flatR, lend_fzo, back_fzo, lend_fz, lend_no, lend_own1, lend_own0, back_fz, back_no, back_own1, back_own0, flat_ints, flatO_ints, yPlain, yNil, vYSeq, ySeq, vYield, yYield, yFor, vGen, fzE, gnD, noE, vListG, dListG, gAddI, gMulI, dLit, dFmt, vFmt, dJs, dJoin, gStr, dCallB, vCallB, keepOwn, isOwn, res, frz, frzs, flat, O.bind_ok, O.bind_bad, O.bind_exn, List.nodup_cons, List.nodup_nil, List.not_mem_nil, List.mem_cons, List.mem_singleton, not_false_eq_true, and_true, true_and, List.contains_cons, List.contains_nil, Nat.zero_add, List.getElem?_nil, List.getElem?_cons_zero, List.getElem?_cons_succ, List.set_cons_zero, List.set_cons_succ, Option.map_some, Option.map_none, if_true, if_false, Bool.and_true, Bool.true_and, Bool.and_false, Bool.false_and, Bool.or_true, Bool.true_or, Bool.or_false, Bool.false_or, Bool.not_true, Bool.not_false, List.length_cons, List.length_nil, List.append_nil, List.cons_append, List.nil_append, List.replicate_succ, List.replicate_zero, decide_true, decide_false, ↓reduceIte, Int.cast_ofNat_Int, Int.reduceLE, Int.reduceLT, Int.reduceToNat, Int.reduceAdd, Int.reduceSub, Int.reduceMul, Int.reduceNeg, Int.reduceEq, Int.reduceNe, Int.reduceBEq, Int.reduceBNe, Int.reduceGT, Int.reduceGE, ne_eq, Nat.reduceAdd, Nat.reduceLeDiff, Nat.reduceEqDiff, Nat.reduceSub, Nat.reduceMul, Nat.reduceLT, Nat.reduceBEq, String.reduceEq, reduceCtorEq, beq_self_eq_true, List.map_cons, List.map_nil, List.reverse_nil, List.map_map]
    rfl
  · unfold e3
    have hx := x_at_hole n t.2.2 k (by omega) (by omega)
    simp only [dVar, vSlot, dC, dOp2, vOp2, dOpA, vOpA, vAn, An.r, dTst, DL.vBool, vTru, dTru, truth, dAnd, dOr, dNot, dAndV, dOrV, dNotV, dIfE, dNil, dCons, dTup, vTup, dLst, vLst, dSkip, vSeq, dSeq, dIf, dRet, dDrop, vSto, vSet, dSet, vAsg, dAsg, gN, DL.gNil, DL.gCons, gTupD, dFor, vTurn, dUn, gNeg, dMul, vMul, isNew, gAdd, DL.gSub, gII, tt2, cdiv, gFdiv, cmod, gMod, cpow, gPow, gLt, gLe, gGt, gGe, gEq_ii, gNe_ii, dIsN, DL.isNon, dCh, vCh, vCh2, dON, dOS, dSl, vSl, gSubL, dAug, vAug, isFN, vPar, dPar, vM, dM, isL, mApp, mPopAt, mPop, gIdx, vTIdx, isT, dTIdx, gIx, dFn, vFn, ress, gLen, gIsi5, isTy, kn, gAll, gAny, gInt, gAbs, gMax2, gMin2, gSum, gMax1, gMin1, gSorted, gList, gTuple, dR1, dR2, vR1, vR2, dLRg, dTRg, dLenSet, vLenSet, dSeqI, vSeqI, itemsOf, dRng1, dRng2, vRng1, vRng2, dEnum, dZip2, dZip3, vEnum, vZip2, vZip3, dLC, vLC, dCall, vCall, frzM, cSl, cSls, upR, cRes, atsOf, fnD, ownIn_G, ownG_nil, ownG_fz, ownG_no, ownG_own, wipeE, dStep, lcStep, dYes, vFin, vOut, outR, outE, dLend, vLend, lendE, backE, flatR, lend_fzo, back_fzo, lend_fz, lend_no, lend_own1, lend_own0, back_fz, back_no, back_own1, back_own0, flat_ints, flatO_ints, yPlain, yNil, vYSeq, ySeq, vYield, yYield, yFor, vGen, fzE, gnD, noE, vListG, dListG, gAddI, gMulI, dLit, dFmt, vFmt, dJs, dJoin, gStr, dCallB, vCallB, keepOwn, isOwn, res, frz, frzs, flat, O.bind_ok, O.bind_bad, O.bind_exn, List.nodup_cons, List.nodup_nil, List.not_mem_nil, List.mem_cons, List.mem_singleton, not_false_eq_true, and_true, true_and, List.contains_cons, List.contains_nil, Nat.zero_add, List.getElem?_nil, List.getElem?_cons_zero, List.getElem?_cons_succ, List.set_cons_zero, List.set_cons_succ, Option.map_some, Option.map_none, if_true, if_false, Bool.and_true, Bool.true_and, Bool.and_false, Bool.false_and, Bool.or_true, Bool.true_or, Bool.or_false, Bool.false_or, Bool.not_true, Bool.not_false, List.length_cons, List.length_nil, List.append_nil, List.cons_append, List.nil_append, List.replicate_succ, List.replicate_zero, decide_true, decide_false, ↓reduceIte, Int.cast_ofNat_Int, Int.reduceLE, Int.reduceLT, Int.reduceToNat, Int.reduceAdd, Int.reduceSub, Int.reduceMul, Int.reduceNeg, Int.reduceEq, Int.reduceNe, Int.reduceBEq, Int.reduceBNe, Int.reduceGT, Int.reduceGE, ne_eq, Nat.reduceAdd, Nat.reduceLeDiff, Nat.reduceEqDiff, Nat.reduceSub, Nat.reduceMul, Nat.reduceLT, Nat.reduceBEq, String.reduceEq, reduceCtorEq, beq_self_eq_true, List.map_cons, List.map_nil, List.reverse_nil, List.length_map, m.lx, hx, x_sign]
    rfl
theorem at0 {α : Type} (x : α) (xs : List α) : atI (x :: xs) 0 = some x := by
  unfold atI ixN
  simp
theorem at1 {α : Type} (x y : α) (xs : List α) : atI (x :: y :: xs) 1 = some y := by
  unfold atI ixN
  simp
  rw [if_pos (by omega)]
  rfl
theorem at2 {α : Type} (x y z : α) (xs : List α) : atI (x :: y :: z :: xs) 2 = some z := by
  unfold atI ixN
  simp
  rw [if_pos (by omega)]
  rfl
theorem at_nat {α : Type} (l : List α) (i : Nat) (h : i < l.length) : atI l (i : Int) = l[i]? := by
  unfold atI ixN
  rw [if_pos (by omega), if_pos (by omega)]
  simp
theorem ix30 : ixN 3 0 = some 0 := by decide
theorem ix32 : ixN 3 2 = some 2 := by decide
/-- a deck that was asked at most m times -/
def Dk (m : Nat) (d : D) : Prop := ∃ a b c : Int, d = .lst [.int a, .int b, .int c] ∧ 0 ≤ b ∧ b < 2147483648 ∧ 0 ≤ c ∧ c ≤ m
theorem Dk.le {m m' : Nat} {d : D} (h : Dk m d) (l : m ≤ m') : Dk m' d := by
  obtain ⟨a, b, c, e, h1, h2, h3, h4⟩ := h
  exact ⟨a, b, c, e, h1, h2, h3, by omega⟩
theorem fmod_range (a l : Int) (h : 0 < l) : 0 ≤ a.fmod l ∧ a.fmod l < l := ⟨Int.fmod_nonneg_of_pos a h, Int.fmod_lt_of_pos a h⟩
theorem x_pick (m : Nat) (d : D) (l : Int) (h : Dk m d) (hm : m < 1073741824) (hl : 0 < l) (hl2 : l ≤ 1000000) :
    ∃ v d', φ__law_pick [.own d, .fz (.int l)] = .ok (.fz (.int v)) [.own d', .fz (.int l)] ∧ 0 ≤ v ∧ v < l ∧ Dk (m + 1) d' := by
  obtain ⟨a, b, c, rfl, h1, h2, h3, h4⟩ := h
  have hl0 : decide (l ≠ 0) = true := decide_eq_true (by omega)
  have hl3 : decide (l.natAbs < 1073741824) = true := decide_eq_true (by omega)
  by_cases ha : 1 < a
  · refine ⟨a.fmod l, .lst [.int (a.fdiv l), .int b, .int c], ?_, (fmod_range a l hl).1, (fmod_range a l hl).2, _, b, c, rfl, h1, h2, h3, by omega⟩
    unfold φ__law_pick
    simp only [dVar, vSlot, dC, dOp2, vOp2, dOpA, vOpA, vAn, An.r, dTst, DL.vBool, vTru, dTru, truth, dAnd, dOr, dNot, dAndV, dOrV, dNotV, dIfE, dNil, dCons, dTup, vTup, dLst, vLst, dSkip, vSeq, dSeq, dIf, dRet, dDrop, vSto, vSet, dSet, vAsg, dAsg, gN, DL.gNil, DL.gCons, gTupD, dFor, vTurn, dUn, gNeg, dMul, vMul, isNew, gAdd, DL.gSub, gII, tt2, cdiv, gFdiv, cmod, gMod, cpow, gPow, gLt, gLe, gGt, gGe, gEq_ii, gNe_ii, dIsN, DL.isNon, dCh, vCh, vCh2, dON, dOS, dSl, vSl, gSubL, dAug, vAug, isFN, vPar, dPar, vM, dM, isL, mApp, mPopAt, mPop, gIdx, vTIdx, isT, dTIdx, gIx, dFn, vFn, ress, gLen, gIsi5, isTy, kn, gAll, gAny, gInt, gAbs, gMax2, gMin2, gSum, gMax1, gMin1, gSorted, gList, gTuple, dR1, dR2, vR1, vR2, dLRg, dTRg, dLenSet, vLenSet, dSeqI, vSeqI, itemsOf, dRng1, dRng2, vRng1, vRng2, dEnum, dZip2, dZip3, vEnum, vZip2, vZip3, dLC, vLC, dCall, vCall, frzM, cSl, cSls, upR, cRes, atsOf, fnD, ownIn_G, ownG_nil, ownG_fz, ownG_no, ownG_own, wipeE, dStep, lcStep, dYes, vFin, vOut, outR, outE, dLend, vLend, lendE, backE, flatR, lend_fzo, back_fzo, lend_fz, lend_no, lend_own1, lend_own0, back_fz, back_no, back_own1, back_own0, flat_ints, flatO_ints, yPlain, yNil, vYSeq, ySeq, vYield, yYield, yFor, vGen, fzE, gnD, noE, vListG, dListG, gAddI, gMulI, dLit, dFmt, vFmt, dJs, dJoin, gStr, dCallB, vCallB, keepOwn, isOwn, res, frz, frzs, flat, O.bind_ok, O.bind_bad, O.bind_exn, List.nodup_cons, List.nodup_nil, List.not_mem_nil, List.mem_cons, List.mem_singleton, not_false_eq_true, and_true, true_and, List.contains_cons, List.contains_nil, Nat.zero_add, List.getElem?_nil, List.getElem?_cons_zero, List.getElem?_cons_succ, List.set_cons_zero, List.set_cons_succ, Option.map_some, Option.map_none, if_true, if_false, Bool.and_true, Bool.true_and, Bool.and_false, Bool.false_and, Bool.or_true, Bool.true_or, Bool.or_false, Bool.false_or, Bool.not_true, Bool.not_false, List.length_cons, List.length_nil, List.append_nil, List.cons_append, List.nil_append, List.replicate_succ, List.replicate_zero, decide_true, decide_false, ↓reduceIte, Int.cast_ofNat_Int, Int.reduceLE, Int.reduceLT, Int.reduceToNat, Int.reduceAdd, Int.reduceSub, Int.reduceMul, Int.reduceNeg, Int.reduceEq, Int.reduceNe, Int.reduceBEq, Int.reduceBNe, Int.reduceGT, Int.reduceGE, ne_eq, Nat.reduceAdd, Nat.reduceLeDiff, Nat.reduceEqDiff, Nat.reduceSub, Nat.reduceMul, Nat.reduceLT, Nat.reduceBEq, String.reduceEq, reduceCtorEq, beq_self_eq_true, List.map_cons, List.map_nil, List.reverse_nil, at0, at1, at2, ix30, ix32, ha, hl0, hl3]
  · have p1 : decide ((b + 15485867 * (c + 1)).natAbs < 2 ^ 64) = true := decide_eq_true (by omega)
    have n1 := fmod_range ((b + 15485867 * (c + 1)) ^ 5) 2147483647 (by decide)
    have p2 : decide (((((b + 15485867 * (c + 1)) ^ 5).fmod 2147483647) + 7919 * (c + 1)).natAbs < 2 ^ 64) = true := decide_eq_true (by omega)
    have hl4 : ¬ (1000000 < l) := by omega
    refine ⟨((((((b + 15485867 * (c + 1)) ^ 5).fmod 2147483647) + 7919 * (c + 1)) ^ 3).fmod 2147483629).fdiv 32 |>.fmod l, .lst [.int a, .int b, .int (c + 1)], ?_, (fmod_range _ l hl).1, (fmod_range _ l hl).2, a, b, c + 1, rfl, h1, h2, by omega, by omega⟩
    have k32 : decide (Int.natAbs 32 < 1073741824) = true := by decide
    have k1 : mulOk 15485867 (c + 1) = true := by unfold mulOk; simp
    have k2 : mulOk 7919 (c + 1) = true := by unfold mulOk; simp
    unfold φ__law_pick
    simp only [dVar, vSlot, dC, dOp2, vOp2, dOpA, vOpA, vAn, An.r, dTst, DL.vBool, vTru, dTru, truth, dAnd, dOr, dNot, dAndV, dOrV, dNotV, dIfE, dNil, dCons, dTup, vTup, dLst, vLst, dSkip, vSeq, dSeq, dIf, dRet, dDrop, vSto, vSet, dSet, vAsg, dAsg, gN, DL.gNil, DL.gCons, gTupD, dFor, vTurn, dUn, gNeg, dMul, vMul, isNew, gAdd, DL.gSub, gII, tt2, cdiv, gFdiv, cmod, gMod, cpow, gPow, gLt, gLe, gGt, gGe, gEq_ii, gNe_ii, dIsN, DL.isNon, dCh, vCh, vCh2, dON, dOS, dSl, vSl, gSubL, dAug, vAug, isFN, vPar, dPar, vM, dM, isL, mApp, mPopAt, mPop, gIdx, vTIdx, isT, dTIdx, gIx, dFn, vFn, ress, gLen, gIsi5, isTy, kn, gAll, gAny, gInt, gAbs, gMax2, gMin2, gSum, gMax1, gMin1, gSorted, gList, gTuple, dR1, dR2, vR1, vR2, dLRg, dTRg, dLenSet, vLenSet, dSeqI, vSeqI, itemsOf, dRng1, dRng2, vRng1, vRng2, dEnum, dZip2, dZip3, vEnum, vZip2, vZip3, dLC, vLC, dCall, vCall, frzM, cSl, cSls, upR, cRes, atsOf, fnD, ownIn_G, ownG_nil, ownG_fz, ownG_no, ownG_own, wipeE, dStep, lcStep, dYes, vFin, vOut, outR, outE, dLend, vLend, lendE, backE, flatR, lend_fzo, back_fzo, lend_fz, lend_no, lend_own1, lend_own0, back_fz, back_no, back_own1, back_own0, flat_ints, flatO_ints, yPlain, yNil, vYSeq, ySeq, vYield, yYield, yFor, vGen, fzE, gnD, noE, vListG, dListG, gAddI, gMulI, dLit, dFmt, vFmt, dJs, dJoin, gStr, dCallB, vCallB, keepOwn, isOwn, res, frz, frzs, flat, O.bind_ok, O.bind_bad, O.bind_exn, List.nodup_cons, List.nodup_nil, List.not_mem_nil, List.mem_cons, List.mem_singleton, not_false_eq_true, and_true, true_and, List.contains_cons, List.contains_nil, Nat.zero_add, List.getElem?_nil, List.getElem?_cons_zero, List.getElem?_cons_succ, List.set_cons_zero, List.set_cons_succ, Option.map_some, Option.map_none, if_true, if_false, Bool.and_true, Bool.true_and, Bool.and_false, Bool.false_and, Bool.or_true, Bool.true_or, Bool.or_false, Bool.false_or, Bool.not_true, Bool.not_false, List.length_cons, List.length_nil, List.append_nil, List.cons_append, List.nil_append, List.replicate_succ, List.replicate_zero, decide_true, decide_false, ↓reduceIte, Int.cast_ofNat_Int, Int.reduceLE, Int.reduceLT, Int.reduceToNat, Int.reduceAdd, Int.reduceSub, Int.reduceMul, Int.reduceNeg, Int.reduceEq, Int.reduceNe, Int.reduceBEq, Int.reduceBNe, Int.reduceGT, Int.reduceGE, ne_eq, Nat.reduceAdd, Nat.reduceLeDiff, Nat.reduceEqDiff, Nat.reduceSub, Nat.reduceMul, Nat.reduceLT, Nat.reduceBEq, String.reduceEq, reduceCtorEq, beq_self_eq_true, List.map_cons, List.map_nil, List.reverse_nil, at0, at1, at2, ix30, ix32, ha, hl0, hl3, p1, p2, k1, k2, hl4, k32]
theorem x_deck (c t : Int) (ht : 0 ≤ t ∧ t ≤ 1000) : ∃ d, φ__law_deck [.fz (.int c), .fz (.int t)] = .ok (.new d) [.fz (.int c), .fz (.int t)] ∧ Dk 1000 d := by
  have n1 := fmod_range c 2147483579 (by decide)
  have p1 : decide (Int.natAbs 10 < 2 ^ 64) = true := by decide
  by_cases h : 10 ^ 18 ≤ c
  · refine ⟨.lst [.int (c - 10 ^ 18), .int (c.fmod 2147483579), .int t], ?_, _, _, _, rfl, n1.1, by omega, ht.1, by omega⟩
    unfold φ__law_deck
    simp only [dVar, vSlot, dC, dOp2, vOp2, dOpA, vOpA, vAn, An.r, dTst, DL.vBool, vTru, dTru, truth, dAnd, dOr, dNot, dAndV, dOrV, dNotV, dIfE, dNil, dCons, dTup, vTup, dLst, vLst, dSkip, vSeq, dSeq, dIf, dRet, dDrop, vSto, vSet, dSet, vAsg, dAsg, gN, DL.gNil, DL.gCons, gTupD, dFor, vTurn, dUn, gNeg, dMul, vMul, isNew, gAdd, DL.gSub, gII, tt2, cdiv, gFdiv, cmod, gMod, cpow, gPow, gLt, gLe, gGt, gGe, gEq_ii, gNe_ii, dIsN, DL.isNon, dCh, vCh, vCh2, dON, dOS, dSl, vSl, gSubL, dAug, vAug, isFN, vPar, dPar, vM, dM, isL, mApp, mPopAt, mPop, gIdx, vTIdx, isT, dTIdx, gIx, dFn, vFn, ress, gLen, gIsi5, isTy, kn, gAll, gAny, gInt, gAbs, gMax2, gMin2, gSum, gMax1, gMin1, gSorted, gList, gTuple, dR1, dR2, vR1, vR2, dLRg, dTRg, dLenSet, vLenSet, dSeqI, vSeqI, itemsOf, dRng1, dRng2, vRng1, vRng2, dEnum, dZip2, dZip3, vEnum, vZip2, vZip3, dLC, vLC, dCall, vCall, frzM, cSl, cSls, upR, cRes, atsOf, fnD, ownIn_G, ownG_nil, ownG_fz, ownG_no, ownG_own, wipeE, dStep, lcStep, dYes, vFin, vOut, outR, outE, dLend, vLend, lendE, backE, flatR, lend_fzo, back_fzo, lend_fz, lend_no, lend_own1, lend_own0, back_fz, back_no, back_own1, back_own0, flat_ints, flatO_ints, yPlain, yNil, vYSeq, ySeq, vYield, yYield, yFor, vGen, fzE, gnD, noE, vListG, dListG, gAddI, gMulI, dLit, dFmt, vFmt, dJs, dJoin, gStr, dCallB, vCallB, keepOwn, isOwn, res, frz, frzs, flat, O.bind_ok, O.bind_bad, O.bind_exn, List.nodup_cons, List.nodup_nil, List.not_mem_nil, List.mem_cons, List.mem_singleton, not_false_eq_true, and_true, true_and, List.contains_cons, List.contains_nil, Nat.zero_add, List.getElem?_nil, List.getElem?_cons_zero, List.getElem?_cons_succ, List.set_cons_zero, List.set_cons_succ, Option.map_some, Option.map_none, if_true, if_false, Bool.and_true, Bool.true_and, Bool.and_false, Bool.false_and, Bool.or_true, Bool.true_or, Bool.or_false, Bool.false_or, Bool.not_true, Bool.not_false, List.length_cons, List.length_nil, List.append_nil, List.cons_append, List.nil_append, List.replicate_succ, List.replicate_zero, decide_true, decide_false, ↓reduceIte, Int.cast_ofNat_Int, Int.reduceLE, Int.reduceLT, Int.reduceToNat, Int.reduceAdd, Int.reduceSub, Int.reduceMul, Int.reduceNeg, Int.reduceEq, Int.reduceNe, Int.reduceBEq, Int.reduceBNe, Int.reduceGT, Int.reduceGE, ne_eq, Nat.reduceAdd, Nat.reduceLeDiff, Nat.reduceEqDiff, Nat.reduceSub, Nat.reduceMul, Nat.reduceLT, Nat.reduceBEq, String.reduceEq, reduceCtorEq, beq_self_eq_true, List.map_cons, List.map_nil, List.reverse_nil, h, p1]
  · refine ⟨.lst [.int 0, .int (c.fmod 2147483579), .int t], ?_, _, _, _, rfl, n1.1, by omega, ht.1, by omega⟩
    unfold φ__law_deck
    simp only [dVar, vSlot, dC, dOp2, vOp2, dOpA, vOpA, vAn, An.r, dTst, DL.vBool, vTru, dTru, truth, dAnd, dOr, dNot, dAndV, dOrV, dNotV, dIfE, dNil, dCons, dTup, vTup, dLst, vLst, dSkip, vSeq, dSeq, dIf, dRet, dDrop, vSto, vSet, dSet, vAsg, dAsg, gN, DL.gNil, DL.gCons, gTupD, dFor, vTurn, dUn, gNeg, dMul, vMul, isNew, gAdd, DL.gSub, gII, tt2, cdiv, gFdiv, cmod, gMod, cpow, gPow, gLt, gLe, gGt, gGe, gEq_ii, gNe_ii, dIsN, DL.isNon, dCh, vCh, vCh2, dON, dOS, dSl, vSl, gSubL, dAug, vAug, isFN, vPar, dPar, vM, dM, isL, mApp, mPopAt, mPop, gIdx, vTIdx, isT, dTIdx, gIx, dFn, vFn, ress, gLen, gIsi5, isTy, kn, gAll, gAny, gInt, gAbs, gMax2, gMin2, gSum, gMax1, gMin1, gSorted, gList, gTuple, dR1, dR2, vR1, vR2, dLRg, dTRg, dLenSet, vLenSet, dSeqI, vSeqI, itemsOf, dRng1, dRng2, vRng1, vRng2, dEnum, dZip2, dZip3, vEnum, vZip2, vZip3, dLC, vLC, dCall, vCall, frzM, cSl, cSls, upR, cRes, atsOf, fnD, ownIn_G, ownG_nil, ownG_fz, ownG_no, ownG_own, wipeE, dStep, lcStep, dYes, vFin, vOut, outR, outE, dLend, vLend, lendE, backE, flatR, lend_fzo, back_fzo, lend_fz, lend_no, lend_own1, lend_own0, back_fz, back_no, back_own1, back_own0, flat_ints, flatO_ints, yPlain, yNil, vYSeq, ySeq, vYield, yYield, yFor, vGen, fzE, gnD, noE, vListG, dListG, gAddI, gMulI, dLit, dFmt, vFmt, dJs, dJoin, gStr, dCallB, vCallB, keepOwn, isOwn, res, frz, frzs, flat, O.bind_ok, O.bind_bad, O.bind_exn, List.nodup_cons, List.nodup_nil, List.not_mem_nil, List.mem_cons, List.mem_singleton, not_false_eq_true, and_true, true_and, List.contains_cons, List.contains_nil, Nat.zero_add, List.getElem?_nil, List.getElem?_cons_zero, List.getElem?_cons_succ, List.set_cons_zero, List.set_cons_succ, Option.map_some, Option.map_none, if_true, if_false, Bool.and_true, Bool.true_and, Bool.and_false, Bool.false_and, Bool.or_true, Bool.true_or, Bool.or_false, Bool.false_or, Bool.not_true, Bool.not_false, List.length_cons, List.length_nil, List.append_nil, List.cons_append, List.nil_append, List.replicate_succ, List.replicate_zero, decide_true, decide_false, ↓reduceIte, Int.cast_ofNat_Int, Int.reduceLE, Int.reduceLT, Int.reduceToNat, Int.reduceAdd, Int.reduceSub, Int.reduceMul, Int.reduceNeg, Int.reduceEq, Int.reduceNe, Int.reduceBEq, Int.reduceBNe, Int.reduceGT, Int.reduceGE, ne_eq, Nat.reduceAdd, Nat.reduceLeDiff, Nat.reduceEqDiff, Nat.reduceSub, Nat.reduceMul, Nat.reduceLT, Nat.reduceBEq, String.reduceEq, reduceCtorEq, beq_self_eq_true, List.map_cons, List.map_nil, List.reverse_nil, h, p1]
theorem x_one (m : Nat) (d : D) (ds : List D) (h : Dk m d) (hm : m < 1073741824) (h0 : 0 < ds.length) (h1 : ds.length ≤ 1000000) :
    ∃ y d', φ__law_one [.own d, .fz (.lst ds)] = .ok (.fz y) [.own d', .fz (.lst ds)] ∧ y ∈ ds ∧ Dk (m + 1) d' := by
  obtain ⟨v, d', e, v0, v1, hd⟩ := x_pick m d ds.length h hm (by omega) (by omega)
  have hv : v.toNat < ds.length := by omega
  have ea : atI ds v = some ds[v.toNat] := by
    have := at_nat ds v.toNat hv
    rw [show ((v.toNat : Nat) : Int) = v by omega] at this
    rw [this, List.getElem?_eq_getElem hv]
  refine ⟨ds[v.toNat], d', ?_, List.getElem_mem hv, hd⟩
  unfold φ__law_one
  simp only [dVar, vSlot, dC, dOp2, vOp2, dOpA, vOpA, vAn, An.r, dTst, DL.vBool, vTru, dTru, truth, dAnd, dOr, dNot, dAndV, dOrV, dNotV, dIfE, dNil, dCons, dTup, vTup, dLst, vLst, dSkip, vSeq, dSeq, dIf, dRet, dDrop, vSto, vSet, dSet, vAsg, dAsg, gN, DL.gNil, DL.gCons, gTupD, dFor, vTurn, dUn, gNeg, dMul, vMul, isNew, gAdd, DL.gSub, gII, tt2, cdiv, gFdiv, cmod, gMod, cpow, gPow, gLt, gLe, gGt, gGe, gEq_ii, gNe_ii, dIsN, DL.isNon, dCh, vCh, vCh2, dON, dOS, dSl, vSl, gSubL, dAug, vAug, isFN, vPar, dPar, vM, dM, isL, mApp, mPopAt, mPop, gIdx, vTIdx, isT, dTIdx, gIx, dFn, vFn, ress, gLen, gIsi5, isTy, kn, gAll, gAny, gInt, gAbs, gMax2, gMin2, gSum, gMax1, gMin1, gSorted, gList, gTuple, dR1, dR2, vR1, vR2, dLRg, dTRg, dLenSet, vLenSet, dSeqI, vSeqI, itemsOf, dRng1, dRng2, vRng1, vRng2, dEnum, dZip2, dZip3, vEnum, vZip2, vZip3, dLC, vLC, dCall, vCall, frzM, cSl, cSls, upR, cRes, atsOf, fnD, ownIn_G, ownG_nil, ownG_fz, ownG_no, ownG_own, wipeE, dStep, lcStep, dYes, vFin, vOut, outR, outE, dLend, vLend, lendE, backE, flatR, lend_fzo, back_fzo, lend_fz, lend_no, lend_own1, lend_own0, back_fz, back_no, back_own1, back_own0, flat_ints, flatO_ints, yPlain, yNil, vYSeq, ySeq, vYield, yYield, yFor, vGen, fzE, gnD, noE, vListG, dListG, gAddI, gMulI, dLit, dFmt, vFmt, dJs, dJoin, gStr, dCallB, vCallB, keepOwn, isOwn, res, frz, frzs, flat, O.bind_ok, O.bind_bad, O.bind_exn, List.nodup_cons, List.nodup_nil, List.not_mem_nil, List.mem_cons, List.mem_singleton, not_false_eq_true, and_true, true_and, List.contains_cons, List.contains_nil, Nat.zero_add, List.getElem?_nil, List.getElem?_cons_zero, List.getElem?_cons_succ, List.set_cons_zero, List.set_cons_succ, Option.map_some, Option.map_none, if_true, if_false, Bool.and_true, Bool.true_and, Bool.and_false, Bool.false_and, Bool.or_true, Bool.true_or, Bool.or_false, Bool.false_or, Bool.not_true, Bool.not_false, List.length_cons, List.length_nil, List.append_nil, List.cons_append, List.nil_append, List.replicate_succ, List.replicate_zero, decide_true, decide_false, ↓reduceIte, Int.cast_ofNat_Int, Int.reduceLE, Int.reduceLT, Int.reduceToNat, Int.reduceAdd, Int.reduceSub, Int.reduceMul, Int.reduceNeg, Int.reduceEq, Int.reduceNe, Int.reduceBEq, Int.reduceBNe, Int.reduceGT, Int.reduceGE, ne_eq, Nat.reduceAdd, Nat.reduceLeDiff, Nat.reduceEqDiff, Nat.reduceSub, Nat.reduceMul, Nat.reduceLT, Nat.reduceBEq, String.reduceEq, reduceCtorEq, beq_self_eq_true, List.map_cons, List.map_nil, List.reverse_nil, e, ea]
theorem L_scores (m n : Nat) (d : D) (w b : Int) (h : Dk m d) (hm : m < 1000001) (hw : 1 ≤ w ∧ w ≤ 14) (hn : n ≤ 1000) (hb : 0 ≤ b ∧ b < 15 - w) :
    ∃ (l : List Int) (d2 : D), lcLoop cg__law_scores_1 ct__law_scores_1 ce__law_scores_1 [4] (rangeD 0 n) [.own d, .fz (.int n), .fz (.int w), .fz (.int (1 + b)), .no] [] = .ok (l.map .int) [.own d2, .fz (.int n), .fz (.int w), .fz (.int (1 + b)), .no] ∧ l.length = n ∧ (∀ v ∈ l, 1 ≤ v ∧ v ≤ 15) ∧ Dk (m + n) d2 := by
  obtain ⟨acc, ε', e, l, d2, hacc, hl, hv, hε, hd2⟩ := lcLoop_from (gg := cg__law_scores_1) (ft := ct__law_scores_1) (fe := ce__law_scores_1) (vs := [4]) (ds := rangeD 0 n) (ε := [.own d, .fz (.int n), .fz (.int w), .fz (.int (1 + b)), .no])
    (fun i acc ε => ∃ (l : List Int) (d2 : D), acc = l.map .int ∧ l.length = i ∧ (∀ v ∈ l, 1 ≤ v ∧ v ≤ 15) ∧ ε = [.own d2, .fz (.int n), .fz (.int w), .fz (.int (1 + b)), .no] ∧ Dk (m + i) d2)
    ⟨[], d, rfl, rfl, fun v hv => (by simp at hv), rfl, h⟩ (fun i y ε acc hy ⟨l, d2, hacc, hl, hv, hε, hd2⟩ => by
      subst hacc hε
      have hi : i < n := by
        have := (List.getElem?_eq_some_iff.mp hy).1
        rwa [rangeD_length] at this
      obtain ⟨u, d3, e3, u0, u1, hd3⟩ := x_pick (m + i) d2 (w + 1) hd2 (by omega) (by omega) (by omega)
      refine ⟨some (.int (1 + b + u)), [.own d3, .fz (.int n), .fz (.int w), .fz (.int (1 + b)), .no], ?_, l ++ [1 + b + u], d3, by simp, by simp [hl], fun v hv' => ?_, rfl, hd3⟩
      · unfold cg__law_scores_1 ct__law_scores_1 ce__law_scores_1
        simp only [dVar, vSlot, dC, dOp2, vOp2, dOpA, vOpA, vAn, An.r, dTst, DL.vBool, vTru, dTru, truth, dAnd, dOr, dNot, dAndV, dOrV, dNotV, dIfE, dNil, dCons, dTup, vTup, dLst, vLst, dSkip, vSeq, dSeq, dIf, dRet, dDrop, vSto, vSet, dSet, vAsg, dAsg, gN, DL.gNil, DL.gCons, gTupD, dFor, vTurn, dUn, gNeg, dMul, vMul, isNew, gAdd, DL.gSub, gII, tt2, cdiv, gFdiv, cmod, gMod, cpow, gPow, gLt, gLe, gGt, gGe, gEq_ii, gNe_ii, dIsN, DL.isNon, dCh, vCh, vCh2, dON, dOS, dSl, vSl, gSubL, dAug, vAug, isFN, vPar, dPar, vM, dM, isL, mApp, mPopAt, mPop, gIdx, vTIdx, isT, dTIdx, gIx, dFn, vFn, ress, gLen, gIsi5, isTy, kn, gAll, gAny, gInt, gAbs, gMax2, gMin2, gSum, gMax1, gMin1, gSorted, gList, gTuple, dR1, dR2, vR1, vR2, dLRg, dTRg, dLenSet, vLenSet, dSeqI, vSeqI, itemsOf, dRng1, dRng2, vRng1, vRng2, dEnum, dZip2, dZip3, vEnum, vZip2, vZip3, dLC, vLC, dCall, vCall, frzM, cSl, cSls, upR, cRes, atsOf, fnD, ownIn_G, ownG_nil, ownG_fz, ownG_no, ownG_own, wipeE, dStep, lcStep, dYes, vFin, vOut, outR, outE, dLend, vLend, lendE, backE, flatR, lend_fzo, back_fzo, lend_fz, lend_no, lend_own1, lend_own0, back_fz, back_no, back_own1, back_own0, flat_ints, flatO_ints, yPlain, yNil, vYSeq, ySeq, vYield, yYield, yFor, vGen, fzE, gnD, noE, vListG, dListG, gAddI, gMulI, dLit, dFmt, vFmt, dJs, dJoin, gStr, dCallB, vCallB, keepOwn, isOwn, res, frz, frzs, flat, O.bind_ok, O.bind_bad, O.bind_exn, List.nodup_cons, List.nodup_nil, List.not_mem_nil, List.mem_cons, List.mem_singleton, not_false_eq_true, and_true, true_and, List.contains_cons, List.contains_nil, Nat.zero_add, List.getElem?_nil, List.getElem?_cons_zero, List.getElem?_cons_succ, List.set_cons_zero, List.set_cons_succ, Option.map_some, Option.map_none, if_true, if_false, Bool.and_true, Bool.true_and, Bool.and_false, Bool.false_and, Bool.or_true, Bool.true_or, Bool.or_false, Bool.false_or, Bool.not_true, Bool.not_false, List.length_cons, List.length_nil, List.append_nil, List.cons_append, List.nil_append, List.replicate_succ, List.replicate_zero, decide_true, decide_false, ↓reduceIte, Int.cast_ofNat_Int, Int.reduceLE, Int.reduceLT, Int.reduceToNat, Int.reduceAdd, Int.reduceSub, Int.reduceMul, Int.reduceNeg, Int.reduceEq, Int.reduceNe, Int.reduceBEq, Int.reduceBNe, Int.reduceGT, Int.reduceGE, ne_eq, Nat.reduceAdd, Nat.reduceLeDiff, Nat.reduceEqDiff, Nat.reduceSub, Nat.reduceMul, Nat.reduceLT, Nat.reduceBEq, String.reduceEq, reduceCtorEq, beq_self_eq_true, List.map_cons, List.map_nil, List.reverse_nil, e3]
      · rcases List.mem_append.mp hv' with z | z
        · exact hv v z
        · rw [List.mem_singleton] at z
          omega)
  rw [rangeD_length] at hl hd2
  rw [hacc, hε] at e
  exact ⟨l, d2, e, hl, hv, hd2⟩
theorem x_scores (m n : Nat) (d : D) (w : Int) (h : Dk m d) (hm : m < 1000000) (hw : 1 ≤ w ∧ w ≤ 14) (hn : n ≤ 1000) :
    ∃ (l : List Int) (d' : D), φ__law_scores [.own d, .fz (.int n), .fz (.int w)] = .ok (.fz (tI l)) [.own d', .fz (.int n), .fz (.int w)] ∧ l.length = n ∧ (∀ v ∈ l, 1 ≤ v ∧ v ≤ 15) ∧ Dk (m + 1 + n) d' := by
  obtain ⟨b, d1, e1, b0, b1, hd1⟩ := x_pick m d (15 - w) h (by omega) (by omega) (by omega)
  have sm : smallI (n : Int) = true := smallI_of (by omega)
  have hr : (rangeD 0 n).length ≤ 1000000 := by rw [rangeD_length]; omega
  obtain ⟨l, d2, e, hl, hv, hd2⟩ := L_scores (m + 1) n d1 w b hd1 (by omega) hw hn ⟨b0, b1⟩
  refine ⟨l, d2, ?_, hl, hv, hd2⟩
  unfold φ__law_scores
  simp only [dVar, vSlot, dC, dOp2, vOp2, dOpA, vOpA, vAn, An.r, dTst, DL.vBool, vTru, dTru, truth, dAnd, dOr, dNot, dAndV, dOrV, dNotV, dIfE, dNil, dCons, dTup, vTup, dLst, vLst, dSkip, vSeq, dSeq, dIf, dRet, dDrop, vSto, vSet, dSet, vAsg, dAsg, gN, DL.gNil, DL.gCons, gTupD, dFor, vTurn, dUn, gNeg, dMul, vMul, isNew, gAdd, DL.gSub, gII, tt2, cdiv, gFdiv, cmod, gMod, cpow, gPow, gLt, gLe, gGt, gGe, gEq_ii, gNe_ii, dIsN, DL.isNon, dCh, vCh, vCh2, dON, dOS, dSl, vSl, gSubL, dAug, vAug, isFN, vPar, dPar, vM, dM, isL, mApp, mPopAt, mPop, gIdx, vTIdx, isT, dTIdx, gIx, dFn, vFn, ress, gLen, gIsi5, isTy, kn, gAll, gAny, gInt, gAbs, gMax2, gMin2, gSum, gMax1, gMin1, gSorted, gList, gTuple, dR1, dR2, vR1, vR2, dLRg, dTRg, dLenSet, vLenSet, dSeqI, vSeqI, itemsOf, dRng1, dRng2, vRng1, vRng2, dEnum, dZip2, dZip3, vEnum, vZip2, vZip3, dLC, vLC, dCall, vCall, frzM, cSl, cSls, upR, cRes, atsOf, fnD, ownIn_G, ownG_nil, ownG_fz, ownG_no, ownG_own, wipeE, dStep, lcStep, dYes, vFin, vOut, outR, outE, dLend, vLend, lendE, backE, flatR, lend_fzo, back_fzo, lend_fz, lend_no, lend_own1, lend_own0, back_fz, back_no, back_own1, back_own0, flat_ints, flatO_ints, yPlain, yNil, vYSeq, ySeq, vYield, yYield, yFor, vGen, fzE, gnD, noE, vListG, dListG, gAddI, gMulI, dLit, dFmt, vFmt, dJs, dJoin, gStr, dCallB, vCallB, keepOwn, isOwn, res, frz, frzs, flat, O.bind_ok, O.bind_bad, O.bind_exn, List.nodup_cons, List.nodup_nil, List.not_mem_nil, List.mem_cons, List.mem_singleton, not_false_eq_true, and_true, true_and, List.contains_cons, List.contains_nil, Nat.zero_add, List.getElem?_nil, List.getElem?_cons_zero, List.getElem?_cons_succ, List.set_cons_zero, List.set_cons_succ, Option.map_some, Option.map_none, if_true, if_false, Bool.and_true, Bool.true_and, Bool.and_false, Bool.false_and, Bool.or_true, Bool.true_or, Bool.or_false, Bool.false_or, Bool.not_true, Bool.not_false, List.length_cons, List.length_nil, List.append_nil, List.cons_append, List.nil_append, List.replicate_succ, List.replicate_zero, decide_true, decide_false, ↓reduceIte, Int.cast_ofNat_Int, Int.reduceLE, Int.reduceLT, Int.reduceToNat, Int.reduceAdd, Int.reduceSub, Int.reduceMul, Int.reduceNeg, Int.reduceEq, Int.reduceNe, Int.reduceBEq, Int.reduceBNe, Int.reduceGT, Int.reduceGE, ne_eq, Nat.reduceAdd, Nat.reduceLeDiff, Nat.reduceEqDiff, Nat.reduceSub, Nat.reduceMul, Nat.reduceLT, Nat.reduceBEq, String.reduceEq, reduceCtorEq, beq_self_eq_true, List.map_cons, List.map_nil, List.reverse_nil, e1, sm, hr, Int.toNat_natCast, e, tI]
theorem soks_i : ∀ l : List Int, soks (l.map D.int) = true
  | [] => by unfold soks; rfl
  | a :: l => by rw [List.map_cons]; unfold soks; rw [soks_i l]; unfold sok; rfl
theorem deps_i : ∀ l : List Int, deps (l.map D.int) = 0
  | [] => by unfold deps; rfl
  | a :: l => by rw [List.map_cons]; unfold deps; rw [deps_i l]; unfold dep; rfl
theorem deqs_i : ∀ l k : List Int, deqs (l.map D.int) (k.map D.int) = decide (l = k)
  | [], [] => by unfold deqs; rfl
  | [], b :: k => by unfold deqs; rfl
  | a :: l, [] => by unfold deqs; rfl
  | a :: l, b :: k => by
    rw [List.map_cons, List.map_cons]
    unfold deqs
    rw [deqs_i l k]
    unfold deq
    by_cases h : a = b
    · subst h; simp
    · simp [h]
theorem okq_lI (l : List Int) : okq (.lst (l.map .int)) = true := by
  unfold okq sok dep
  rw [soks_i, deps_i]; rfl
theorem gNe_ll (l k : List Int) : gNe (.lst (l.map .int)) (.lst (k.map .int)) = some (.bl (!decide (l = k))) := by
  unfold gNe
  rw [okq_lI, okq_lI]
  unfold deq
  rw [deqs_i]; rfl
theorem gNe_nn : gNe (.lst []) (.lst []) = some (.bl false) := gNe_ll [] []
theorem erase_perm : ∀ (l : List Int) (i : Nat) (h : i < l.length), (l[i] :: l.eraseIdx i).Perm l
  | a :: l, 0, _ => List.Perm.refl _
  | a :: l, i + 1, h => by
    have hi : i < l.length := by simpa using h
    exact (List.Perm.swap a (l[i]'hi) _).trans ((erase_perm l i hi).cons a)
theorem erase_map : ∀ (l : List Int) (i : Nat), (l.map D.int).eraseIdx i = (l.eraseIdx i).map D.int
  | [], i => rfl
  | a :: l, 0 => rfl
  | a :: l, i + 1 => by
    show D.int a :: (l.map D.int).eraseIdx i = _
    rw [erase_map l i]; rfl
theorem gNe_ln (l : List Int) : gNe (.lst (l.map .int)) (.lst []) = some (.bl (!decide (l = []))) := gNe_ll l []
theorem L_index (n : Sl) : ∀ (k : Nat) (left found : List Int) (m j : Nat) (d : D), left.length = k → Dk m d → m + k < 1000000 → found.length + k ≤ 1000 →
    ∃ (f' : List Int) (d' : D), dWhile wt__law_index_1 wb__law_index_1 (k + 1 + j) [.own d, n, .own (lI left), .own (lI found)] = .ok .nx [.own d', n, .own (lI []), .own (lI f')] ∧ f'.Perm (found ++ left) ∧ Dk (m + k) d'
  | 0, left, found, m, j, d, hl, hd, _, _ => by
    have : left = [] := List.eq_nil_of_length_eq_zero hl
    subst this
    refine ⟨found, d, ?_, by simp, hd⟩
    have t1 : wt__law_index_1 [.own d, n, .own (lI []), .own (lI found)] = .ok false [.own d, n, .own (lI []), .own (lI found)] := by
      unfold wt__law_index_1 lI
      simp only [dVar, vSlot, dC, dOp2, vOp2, dOpA, vOpA, vAn, An.r, dTst, DL.vBool, vTru, dTru, truth, dAnd, dOr, dNot, dAndV, dOrV, dNotV, dIfE, dNil, dCons, dTup, vTup, dLst, vLst, dSkip, vSeq, dSeq, dIf, dRet, dDrop, vSto, vSet, dSet, vAsg, dAsg, gN, DL.gNil, DL.gCons, gTupD, dFor, vTurn, dUn, gNeg, dMul, vMul, isNew, gAdd, DL.gSub, gII, tt2, cdiv, gFdiv, cmod, gMod, cpow, gPow, gLt, gLe, gGt, gGe, dIsN, DL.isNon, dCh, vCh, vCh2, dON, dOS, dSl, vSl, gSubL, dAug, vAug, isFN, vPar, dPar, vM, dM, isL, mApp, mPopAt, mPop, gIdx, vTIdx, isT, dTIdx, gIx, dFn, vFn, ress, gLen, gIsi5, isTy, kn, gAll, gAny, gInt, gAbs, gMax2, gMin2, gSum, gMax1, gMin1, gSorted, gList, gTuple, dR1, dR2, vR1, vR2, dLRg, dTRg, dLenSet, vLenSet, dSeqI, vSeqI, itemsOf, dRng1, dRng2, vRng1, vRng2, dEnum, dZip2, dZip3, vEnum, vZip2, vZip3, dLC, vLC, dCall, vCall, frzM, cSl, cSls, upR, cRes, atsOf, fnD, ownIn_G, ownG_nil, ownG_fz, ownG_no, ownG_own, wipeE, dStep, lcStep, dYes, vFin, vOut, outR, outE, dLend, vLend, lendE, backE, flatR, lend_fzo, back_fzo, lend_fz, lend_no, lend_own1, lend_own0, back_fz, back_no, back_own1, back_own0, flat_ints, flatO_ints, yPlain, yNil, vYSeq, ySeq, vYield, yYield, yFor, vGen, fzE, gnD, noE, vListG, dListG, gAddI, gMulI, dLit, dFmt, vFmt, dJs, dJoin, gStr, dCallB, vCallB, keepOwn, isOwn, res, frz, frzs, flat, O.bind_ok, O.bind_bad, O.bind_exn, List.nodup_cons, List.nodup_nil, List.not_mem_nil, List.mem_cons, List.mem_singleton, not_false_eq_true, and_true, true_and, List.contains_cons, List.contains_nil, Nat.zero_add, List.getElem?_nil, List.getElem?_cons_zero, List.getElem?_cons_succ, List.set_cons_zero, List.set_cons_succ, Option.map_some, Option.map_none, if_true, if_false, Bool.and_true, Bool.true_and, Bool.and_false, Bool.false_and, Bool.or_true, Bool.true_or, Bool.or_false, Bool.false_or, Bool.not_true, Bool.not_false, List.length_cons, List.length_nil, List.append_nil, List.cons_append, List.nil_append, List.replicate_succ, List.replicate_zero, decide_true, decide_false, ↓reduceIte, Int.cast_ofNat_Int, Int.reduceLE, Int.reduceLT, Int.reduceToNat, Int.reduceAdd, Int.reduceSub, Int.reduceMul, Int.reduceNeg, Int.reduceEq, Int.reduceNe, Int.reduceBEq, Int.reduceBNe, Int.reduceGT, Int.reduceGE, ne_eq, Nat.reduceAdd, Nat.reduceLeDiff, Nat.reduceEqDiff, Nat.reduceSub, Nat.reduceMul, Nat.reduceLT, Nat.reduceBEq, String.reduceEq, reduceCtorEq, beq_self_eq_true, List.map_cons, List.map_nil, List.reverse_nil, gNe_nn]
    rw [show 0 + 1 + j = j + 1 by omega, dWhile_succ, t1]
    rfl
  | k + 1, left, found, m, j, d, hl, hd, hm, hf => by
    obtain ⟨v, d1, e1, v0, v1, hd1⟩ := x_pick m d left.length hd (by omega) (by omega) (by omega)
    have hv : v.toNat < left.length := by omega
    obtain ⟨f', d', e, hp, hd'⟩ := L_index n k (left.eraseIdx v.toNat) (found ++ [left[v.toNat]]) (m + 1) j d1 (by rw [List.length_eraseIdx_of_lt hv, hl]; omega) hd1 (by omega) (by simp; omega)
    refine ⟨f', d', ?_, ?_, by rw [show m + (k + 1) = m + 1 + k by omega]; exact hd'⟩
    · have sm : smallI v = true := smallI_of (by omega)
      have ne : left ≠ [] := fun z => by rw [z] at hl; simp at hl
      have se : seqIndex? v left.length = some v.toNat := seqIndex_of v0 v1
      have ge : (left.map D.int)[v.toNat]? = some (.int left[v.toNat]) := by rw [List.getElem?_map, List.getElem?_eq_getElem hv]; rfl
      have lf : found.length < 1000000 := by omega
      have er : (left.map D.int).eraseIdx v.toNat = (left.eraseIdx v.toNat).map D.int := erase_map left v.toNat
      have t1 : wt__law_index_1 [.own d, n, .own (lI left), .own (lI found)] = .ok true [.own d, n, .own (lI left), .own (lI found)] := by
        unfold wt__law_index_1 lI
        simp only [dVar, vSlot, dC, dOp2, vOp2, dOpA, vOpA, vAn, An.r, dTst, DL.vBool, vTru, dTru, truth, dAnd, dOr, dNot, dAndV, dOrV, dNotV, dIfE, dNil, dCons, dTup, vTup, dLst, vLst, dSkip, vSeq, dSeq, dIf, dRet, dDrop, vSto, vSet, dSet, vAsg, dAsg, gN, DL.gNil, DL.gCons, gTupD, dFor, vTurn, dUn, gNeg, dMul, vMul, isNew, gAdd, DL.gSub, gII, tt2, cdiv, gFdiv, cmod, gMod, cpow, gPow, gLt, gLe, gGt, gGe, dIsN, DL.isNon, dCh, vCh, vCh2, dON, dOS, dSl, vSl, gSubL, dAug, vAug, isFN, vPar, dPar, vM, dM, isL, mApp, mPopAt, mPop, gIdx, vTIdx, isT, dTIdx, gIx, dFn, vFn, ress, gLen, gIsi5, isTy, kn, gAll, gAny, gInt, gAbs, gMax2, gMin2, gSum, gMax1, gMin1, gSorted, gList, gTuple, dR1, dR2, vR1, vR2, dLRg, dTRg, dLenSet, vLenSet, dSeqI, vSeqI, itemsOf, dRng1, dRng2, vRng1, vRng2, dEnum, dZip2, dZip3, vEnum, vZip2, vZip3, dLC, vLC, dCall, vCall, frzM, cSl, cSls, upR, cRes, atsOf, fnD, ownIn_G, ownG_nil, ownG_fz, ownG_no, ownG_own, wipeE, dStep, lcStep, dYes, vFin, vOut, outR, outE, dLend, vLend, lendE, backE, flatR, lend_fzo, back_fzo, lend_fz, lend_no, lend_own1, lend_own0, back_fz, back_no, back_own1, back_own0, flat_ints, flatO_ints, yPlain, yNil, vYSeq, ySeq, vYield, yYield, yFor, vGen, fzE, gnD, noE, vListG, dListG, gAddI, gMulI, dLit, dFmt, vFmt, dJs, dJoin, gStr, dCallB, vCallB, keepOwn, isOwn, res, frz, frzs, flat, O.bind_ok, O.bind_bad, O.bind_exn, List.nodup_cons, List.nodup_nil, List.not_mem_nil, List.mem_cons, List.mem_singleton, not_false_eq_true, and_true, true_and, List.contains_cons, List.contains_nil, Nat.zero_add, List.getElem?_nil, List.getElem?_cons_zero, List.getElem?_cons_succ, List.set_cons_zero, List.set_cons_succ, Option.map_some, Option.map_none, if_true, if_false, Bool.and_true, Bool.true_and, Bool.and_false, Bool.false_and, Bool.or_true, Bool.true_or, Bool.or_false, Bool.false_or, Bool.not_true, Bool.not_false, List.length_cons, List.length_nil, List.append_nil, List.cons_append, List.nil_append, List.replicate_succ, List.replicate_zero, decide_true, decide_false, ↓reduceIte, Int.cast_ofNat_Int, Int.reduceLE, Int.reduceLT, Int.reduceToNat, Int.reduceAdd, Int.reduceSub, Int.reduceMul, Int.reduceNeg, Int.reduceEq, Int.reduceNe, Int.reduceBEq, Int.reduceBNe, Int.reduceGT, Int.reduceGE, ne_eq, Nat.reduceAdd, Nat.reduceLeDiff, Nat.reduceEqDiff, Nat.reduceSub, Nat.reduceMul, Nat.reduceLT, Nat.reduceBEq, String.reduceEq, reduceCtorEq, beq_self_eq_true, List.map_cons, List.map_nil, List.reverse_nil, gNe_ln, ne]
      have t2 : wb__law_index_1 [.own d, n, .own (lI left), .own (lI found)] = .ok .nx [.own d1, n, .own (lI (left.eraseIdx v.toNat)), .own (lI (found ++ [left[v.toNat]]))] := by
        unfold wb__law_index_1 lI
        simp only [dVar, vSlot, dC, dOp2, vOp2, dOpA, vOpA, vAn, An.r, dTst, DL.vBool, vTru, dTru, truth, dAnd, dOr, dNot, dAndV, dOrV, dNotV, dIfE, dNil, dCons, dTup, vTup, dLst, vLst, dSkip, vSeq, dSeq, dIf, dRet, dDrop, vSto, vSet, dSet, vAsg, dAsg, gN, DL.gNil, DL.gCons, gTupD, dFor, vTurn, dUn, gNeg, dMul, vMul, isNew, gAdd, DL.gSub, gII, tt2, cdiv, gFdiv, cmod, gMod, cpow, gPow, gLt, gLe, gGt, gGe, gEq_ii, gNe_ii, dIsN, DL.isNon, dCh, vCh, vCh2, dON, dOS, dSl, vSl, gSubL, dAug, vAug, isFN, vPar, dPar, vM, dM, isL, mApp, mPopAt, mPop, gIdx, vTIdx, isT, dTIdx, gIx, dFn, vFn, ress, gLen, gIsi5, isTy, kn, gAll, gAny, gInt, gAbs, gMax2, gMin2, gSum, gMax1, gMin1, gSorted, gList, gTuple, dR1, dR2, vR1, vR2, dLRg, dTRg, dLenSet, vLenSet, dSeqI, vSeqI, itemsOf, dRng1, dRng2, vRng1, vRng2, dEnum, dZip2, dZip3, vEnum, vZip2, vZip3, dLC, vLC, dCall, vCall, frzM, cSl, cSls, upR, cRes, atsOf, fnD, ownIn_G, ownG_nil, ownG_fz, ownG_no, ownG_own, wipeE, dStep, lcStep, dYes, vFin, vOut, outR, outE, dLend, vLend, lendE, backE, flatR, lend_fzo, back_fzo, lend_fz, lend_no, lend_own1, lend_own0, back_fz, back_no, back_own1, back_own0, flat_ints, flatO_ints, yPlain, yNil, vYSeq, ySeq, vYield, yYield, yFor, vGen, fzE, gnD, noE, vListG, dListG, gAddI, gMulI, dLit, dFmt, vFmt, dJs, dJoin, gStr, dCallB, vCallB, keepOwn, isOwn, res, frz, frzs, flat, O.bind_ok, O.bind_bad, O.bind_exn, List.nodup_cons, List.nodup_nil, List.not_mem_nil, List.mem_cons, List.mem_singleton, not_false_eq_true, and_true, true_and, List.contains_cons, List.contains_nil, Nat.zero_add, List.getElem?_nil, List.getElem?_cons_zero, List.getElem?_cons_succ, List.set_cons_zero, List.set_cons_succ, Option.map_some, Option.map_none, if_true, if_false, Bool.and_true, Bool.true_and, Bool.and_false, Bool.false_and, Bool.or_true, Bool.true_or, Bool.or_false, Bool.false_or, Bool.not_true, Bool.not_false, List.length_cons, List.length_nil, List.append_nil, List.cons_append, List.nil_append, List.replicate_succ, List.replicate_zero, decide_true, decide_false, ↓reduceIte, Int.cast_ofNat_Int, Int.reduceLE, Int.reduceLT, Int.reduceToNat, Int.reduceAdd, Int.reduceSub, Int.reduceMul, Int.reduceNeg, Int.reduceEq, Int.reduceNe, Int.reduceBEq, Int.reduceBNe, Int.reduceGT, Int.reduceGE, ne_eq, Nat.reduceAdd, Nat.reduceLeDiff, Nat.reduceEqDiff, Nat.reduceSub, Nat.reduceMul, Nat.reduceLT, Nat.reduceBEq, String.reduceEq, reduceCtorEq, beq_self_eq_true, List.map_cons, List.map_nil, List.reverse_nil, e1, List.length_map, sm, se, ge, lf, er, List.map_append]
      rw [show k + 1 + 1 + j = (k + 1 + j) + 1 by omega, dWhile_succ, t1]
      show (wb__law_index_1 [.own d, n, .own (lI left), .own (lI found)]).bind (vTurn (dWhile wt__law_index_1 wb__law_index_1 (k + 1 + j))) = _
      rw [t2]
      exact e
    · refine hp.trans ?_
      rw [List.append_assoc]
      refine List.Perm.append_left _ ?_
      exact erase_perm left v.toNat hv
theorem rangeD_map (a : Int) (n : Nat) : rangeD a n = ((List.range n).map fun i => a + (i : Nat)).map D.int := by
  unfold rangeD
  rw [List.map_map]; rfl
theorem x_index (m n : Nat) (d : D) (h : Dk m d) (hm : m < 900000) (hn : n ≤ 900) :
    ∃ (x : List Int) (d' : D), φ__law_index [.own d, .fz (.int n)] = .ok (.fz (tI x)) [.own d', .fz (.int n)] ∧ x.Perm (ids n) ∧ Dk (m + n) d' := by
  obtain ⟨f', d', e, hp, hd'⟩ := L_index (.fz (.int n)) n (ids n) [] m (999 - n) d (ids_length n) h (by omega) (by simp; omega)
  refine ⟨f', d', ?_, by simpa using hp, hd'⟩
  have r1 : rgOk 1 ((n : Int) + 1) = true := by
    unfold rgOk
    rw [smallI_of (by omega), smallI_of (by omega), decide_eq_true (by omega)]; rfl
  have r2 : ((n : Int) + 1 - 1).toNat = n := by omega
  have r3 : rangeD 1 n = (ids n).map D.int := rangeD_map 1 n
  unfold φ__law_index
  rw [show n + 1 + (999 - n) = 1000 by omega] at e
  unfold lI at e
  rw [List.map_nil] at e
  simp only [dVar, vSlot, dC, dOp2, vOp2, dOpA, vOpA, vAn, An.r, dTst, DL.vBool, vTru, dTru, truth, dAnd, dOr, dNot, dAndV, dOrV, dNotV, dIfE, dNil, dCons, dTup, vTup, dLst, vLst, dSkip, vSeq, dSeq, dIf, dRet, dDrop, vSto, vSet, dSet, vAsg, dAsg, gN, DL.gNil, DL.gCons, gTupD, dFor, vTurn, dUn, gNeg, dMul, vMul, isNew, gAdd, DL.gSub, gII, tt2, cdiv, gFdiv, cmod, gMod, cpow, gPow, gLt, gLe, gGt, gGe, gEq_ii, gNe_ii, dIsN, DL.isNon, dCh, vCh, vCh2, dON, dOS, dSl, vSl, gSubL, dAug, vAug, isFN, vPar, dPar, vM, dM, isL, mApp, mPopAt, mPop, gIdx, vTIdx, isT, dTIdx, gIx, dFn, vFn, ress, gLen, gIsi5, isTy, kn, gAll, gAny, gInt, gAbs, gMax2, gMin2, gSum, gMax1, gMin1, gSorted, gList, gTuple, dR1, dR2, vR1, vR2, dLRg, dTRg, dLenSet, vLenSet, dSeqI, vSeqI, itemsOf, dRng1, dRng2, vRng1, vRng2, dEnum, dZip2, dZip3, vEnum, vZip2, vZip3, dLC, vLC, dCall, vCall, frzM, cSl, cSls, upR, cRes, atsOf, fnD, ownIn_G, ownG_nil, ownG_fz, ownG_no, ownG_own, wipeE, dStep, lcStep, dYes, vFin, vOut, outR, outE, dLend, vLend, lendE, backE, flatR, lend_fzo, back_fzo, lend_fz, lend_no, lend_own1, lend_own0, back_fz, back_no, back_own1, back_own0, flat_ints, flatO_ints, yPlain, yNil, vYSeq, ySeq, vYield, yYield, yFor, vGen, fzE, gnD, noE, vListG, dListG, gAddI, gMulI, dLit, dFmt, vFmt, dJs, dJoin, gStr, dCallB, vCallB, keepOwn, isOwn, res, frz, frzs, flat, O.bind_ok, O.bind_bad, O.bind_exn, List.nodup_cons, List.nodup_nil, List.not_mem_nil, List.mem_cons, List.mem_singleton, not_false_eq_true, and_true, true_and, List.contains_cons, List.contains_nil, Nat.zero_add, List.getElem?_nil, List.getElem?_cons_zero, List.getElem?_cons_succ, List.set_cons_zero, List.set_cons_succ, Option.map_some, Option.map_none, if_true, if_false, Bool.and_true, Bool.true_and, Bool.and_false, Bool.false_and, Bool.or_true, Bool.true_or, Bool.or_false, Bool.false_or, Bool.not_true, Bool.not_false, List.length_cons, List.length_nil, List.append_nil, List.cons_append, List.nil_append, List.replicate_succ, List.replicate_zero, decide_true, decide_false, ↓reduceIte, Int.cast_ofNat_Int, Int.reduceLE, Int.reduceLT, Int.reduceToNat, Int.reduceAdd, Int.reduceSub, Int.reduceMul, Int.reduceNeg, Int.reduceEq, Int.reduceNe, Int.reduceBEq, Int.reduceBNe, Int.reduceGT, Int.reduceGE, ne_eq, Nat.reduceAdd, Nat.reduceLeDiff, Nat.reduceEqDiff, Nat.reduceSub, Nat.reduceMul, Nat.reduceLT, Nat.reduceBEq, String.reduceEq, reduceCtorEq, beq_self_eq_true, List.map_cons, List.map_nil, List.reverse_nil, r1, r2, r3, e, tI]
structure Sc (n : Nat) (f : List Int) : Prop where
  l : f.length = n
  r : ∀ v ∈ f, 1 ≤ v ∧ v ≤ 15
theorem L_near (m n : Nat) (d : D) (f : List Int) (S0 S1 S2 S3 S4 S5 S6 : Sl) (h : Dk m d) (hm : m < 1000001) (hf : Sc n f) (hn : n ≤ 1000) :
    ∃ (l : List Int) (d2 : D), lcLoop cg__law_match_1 ct__law_match_1 ce__law_match_1 [7] (f.map .int) [.own d, S1, S2, S3, S4, S5, S6, .no] [] = .ok (l.map .int) [.own d2, S1, S2, S3, S4, S5, S6, .no] ∧ Sc n l ∧ Dk (m + n) d2 := by
  obtain ⟨acc, ε', e, l, d2, hacc, hl, hv, hε, hd2⟩ := lcLoop_from (gg := cg__law_match_1) (ft := ct__law_match_1) (fe := ce__law_match_1) (vs := [7]) (ds := f.map .int) (ε := [.own d, S1, S2, S3, S4, S5, S6, .no])
    (fun i acc ε => ∃ (l : List Int) (d2 : D), acc = l.map .int ∧ l.length = i ∧ (∀ v ∈ l, 1 ≤ v ∧ v ≤ 15) ∧ ε = [.own d2, S1, S2, S3, S4, S5, S6, .no] ∧ Dk (m + i) d2)
    ⟨[], d, rfl, rfl, fun v hv => (by simp at hv), rfl, h⟩ (fun i y ε acc hy ⟨l, d2, hacc, hl, hv, hε, hd2⟩ => by
      subst hacc hε
      obtain ⟨hi, ey⟩ := List.getElem?_eq_some_iff.mp hy
      rw [List.length_map, hf.l] at hi
      rw [List.getElem_map] at ey
      subst ey
      obtain ⟨u, d3, e3, u0, u1, hd3⟩ := x_pick (m + i) d2 3 hd2 (by omega) (by omega) (by omega)
      generalize hz : f[i]'(by rw [hf.l]; exact hi) = z
      refine ⟨some (.int (if (if z + u - 1 < 15 then z + u - 1 else 15) > 1 then (if z + u - 1 < 15 then z + u - 1 else 15) else 1)), [.own d3, S1, S2, S3, S4, S5, S6, .no], ?_, l ++ [if (if z + u - 1 < 15 then z + u - 1 else 15) > 1 then (if z + u - 1 < 15 then z + u - 1 else 15) else 1], d3, by simp, by simp [hl], fun v hv' => ?_, rfl, hd3⟩
      · unfold cg__law_match_1 ct__law_match_1 ce__law_match_1
        simp only [dVar, vSlot, dC, dOp2, vOp2, dOpA, vOpA, vAn, An.r, dTst, DL.vBool, vTru, dTru, truth, dAnd, dOr, dNot, dAndV, dOrV, dNotV, dIfE, dNil, dCons, dTup, vTup, dLst, vLst, dSkip, vSeq, dSeq, dIf, dRet, dDrop, vSto, vSet, dSet, vAsg, dAsg, gN, DL.gNil, DL.gCons, gTupD, dFor, vTurn, dUn, gNeg, dMul, vMul, isNew, gAdd, DL.gSub, gII, tt2, cdiv, gFdiv, cmod, gMod, cpow, gPow, gLt, gLe, gGt, gGe, gEq_ii, gNe_ii, dIsN, DL.isNon, dCh, vCh, vCh2, dON, dOS, dSl, vSl, gSubL, dAug, vAug, isFN, vPar, dPar, vM, dM, isL, mApp, mPopAt, mPop, gIdx, vTIdx, isT, dTIdx, gIx, dFn, vFn, ress, gLen, gIsi5, isTy, kn, gAll, gAny, gInt, gAbs, gMax2, gMin2, gSum, gMax1, gMin1, gSorted, gList, gTuple, dR1, dR2, vR1, vR2, dLRg, dTRg, dLenSet, vLenSet, dSeqI, vSeqI, itemsOf, dRng1, dRng2, vRng1, vRng2, dEnum, dZip2, dZip3, vEnum, vZip2, vZip3, dLC, vLC, dCall, vCall, frzM, cSl, cSls, upR, cRes, atsOf, fnD, ownIn_G, ownG_nil, ownG_fz, ownG_no, ownG_own, wipeE, dStep, lcStep, dYes, vFin, vOut, outR, outE, dLend, vLend, lendE, backE, flatR, lend_fzo, back_fzo, lend_fz, lend_no, lend_own1, lend_own0, back_fz, back_no, back_own1, back_own0, flat_ints, flatO_ints, yPlain, yNil, vYSeq, ySeq, vYield, yYield, yFor, vGen, fzE, gnD, noE, vListG, dListG, gAddI, gMulI, dLit, dFmt, vFmt, dJs, dJoin, gStr, dCallB, vCallB, keepOwn, isOwn, res, frz, frzs, flat, O.bind_ok, O.bind_bad, O.bind_exn, List.nodup_cons, List.nodup_nil, List.not_mem_nil, List.mem_cons, List.mem_singleton, not_false_eq_true, and_true, true_and, List.contains_cons, List.contains_nil, Nat.zero_add, List.getElem?_nil, List.getElem?_cons_zero, List.getElem?_cons_succ, List.set_cons_zero, List.set_cons_succ, Option.map_some, Option.map_none, if_true, if_false, Bool.and_true, Bool.true_and, Bool.and_false, Bool.false_and, Bool.or_true, Bool.true_or, Bool.or_false, Bool.false_or, Bool.not_true, Bool.not_false, List.length_cons, List.length_nil, List.append_nil, List.cons_append, List.nil_append, List.replicate_succ, List.replicate_zero, decide_true, decide_false, ↓reduceIte, Int.cast_ofNat_Int, Int.reduceLE, Int.reduceLT, Int.reduceToNat, Int.reduceAdd, Int.reduceSub, Int.reduceMul, Int.reduceNeg, Int.reduceEq, Int.reduceNe, Int.reduceBEq, Int.reduceBNe, Int.reduceGT, Int.reduceGE, ne_eq, Nat.reduceAdd, Nat.reduceLeDiff, Nat.reduceEqDiff, Nat.reduceSub, Nat.reduceMul, Nat.reduceLT, Nat.reduceBEq, String.reduceEq, reduceCtorEq, beq_self_eq_true, List.map_cons, List.map_nil, List.reverse_nil, e3]
      · rcases List.mem_append.mp hv' with w | w
        · exact hv v w
        · rw [List.mem_singleton] at w
          subst w
          by_cases c1 : z + u - 1 < 15
          · rw [if_pos c1]
            by_cases c2 : z + u - 1 > 1
            · rw [if_pos c2]; omega
            · rw [if_neg c2]; omega
          · rw [if_neg c1, if_pos (by omega)]; omega)
  rw [List.length_map, hf.l] at hl hd2
  rw [hacc, hε] at e
  exact ⟨l, d2, e, ⟨hl, hv⟩, hd2⟩
theorem x_match (m few many : Nat) (d : D) (h : Dk m d) (hm : m < 100000) (h1 : 1 ≤ few) (h2 : few ≤ many) (h3 : many ≤ 18) :
    ∃ (n : Nat) (f s x : List Int) (d' : D), φ__law_match [.own d, .fz (.int few), .fz (.int many)] = .ok (.fz (mD f s x)) [.own d', .fz (.int few), .fz (.int many)] ∧ few ≤ n ∧ n ≤ many ∧ VM n f s x ∧ Dk (m + 200) d' := by
  obtain ⟨k, d1, e1, k0, k1, hd1⟩ := x_pick m d ((many : Int) - few + 1) h (by omega) (by omega) (by omega)
  obtain ⟨n, hn⟩ : ∃ n : Nat, (few : Int) + k = n := ⟨(few + k).toNat, by omega⟩
  obtain ⟨y, d2, e2, hy, hd2⟩ := x_one (m + 1) d1 [.int 1, .int 2, .int 4, .int 14] hd1 (by omega) (by simp) (by simp)
  obtain ⟨w, rfl, hw⟩ : ∃ w : Int, y = .int w ∧ 1 ≤ w ∧ w ≤ 14 := by
    simp only [List.mem_cons, List.not_mem_nil, or_false] at hy
    rcases hy with rfl | rfl | rfl | rfl
    · exact ⟨1, rfl, by omega⟩
    · exact ⟨2, rfl, by omega⟩
    · exact ⟨4, rfl, by omega⟩
    · exact ⟨14, rfl, by omega⟩
  obtain ⟨f, d3, e3, fl, fr, hd3⟩ := x_scores (m + 1 + 1) n d2 w hd2 (by omega) hw (by omega)
  obtain ⟨g, d4, e4, hg, hd4⟩ := L_near (m + 1 + 1 + 1 + n) n d3 f .no (.fz (.int few)) (.fz (.int many)) (.fz (.int n)) (.fz (.int w)) (.fz (tI f)) .no hd3 (by omega) ⟨fl, fr⟩ (by omega)
  obtain ⟨g2, d5, e5, g2l, g2r, hd5⟩ := x_scores (m + 1 + 1 + 1 + n + n) n d4 w hd4 (by omega) hw (by omega)
  obtain ⟨z, d6, e6, hz, hd6⟩ := x_one (m + 1 + 1 + 1 + n + n + 1 + n) d5 [tI g, tI g, tI g2] hd5 (by omega) (by simp) (by simp)
  obtain ⟨s, rfl, hs⟩ : ∃ s : List Int, z = tI s ∧ Sc n s := by
    simp only [List.mem_cons, List.not_mem_nil, or_false] at hz
    rcases hz with rfl | rfl | rfl
    · exact ⟨g, rfl, hg⟩
    · exact ⟨g, rfl, hg⟩
    · exact ⟨g2, rfl, g2l, g2r⟩
  obtain ⟨x, d7, e7, hx, hd7⟩ := x_index _ n d6 hd6 (by omega) (by omega)
  refine ⟨n, f, s, x, d7, ?_, by omega, by omega, ⟨by omega, by omega, fl, hs.l, fr, hs.r, hx⟩, hd7.le (by omega)⟩
  have hf : f.length ≤ 1000000 := by omega
  unfold φ__law_match
  unfold tI at *
  simp only [dVar, vSlot, dC, dOp2, vOp2, dOpA, vOpA, vAn, An.r, dTst, DL.vBool, vTru, dTru, truth, dAnd, dOr, dNot, dAndV, dOrV, dNotV, dIfE, dNil, dCons, dTup, vTup, dLst, vLst, dSkip, vSeq, dSeq, dIf, dRet, dDrop, vSto, vSet, dSet, vAsg, dAsg, gN, DL.gNil, DL.gCons, gTupD, dFor, vTurn, dUn, gNeg, dMul, vMul, isNew, gAdd, DL.gSub, gII, tt2, cdiv, gFdiv, cmod, gMod, cpow, gPow, gLt, gLe, gGt, gGe, gEq_ii, gNe_ii, dIsN, DL.isNon, dCh, vCh, vCh2, dON, dOS, dSl, vSl, gSubL, dAug, vAug, isFN, vPar, dPar, vM, dM, isL, mApp, mPopAt, mPop, gIdx, vTIdx, isT, dTIdx, gIx, dFn, vFn, ress, gLen, gIsi5, isTy, kn, gAll, gAny, gInt, gAbs, gMax2, gMin2, gSum, gMax1, gMin1, gSorted, gList, gTuple, dR1, dR2, vR1, vR2, dLRg, dTRg, dLenSet, vLenSet, dSeqI, vSeqI, itemsOf, dRng1, dRng2, vRng1, vRng2, dEnum, dZip2, dZip3, vEnum, vZip2, vZip3, dLC, vLC, dCall, vCall, frzM, cSl, cSls, upR, cRes, atsOf, fnD, ownIn_G, ownG_nil, ownG_fz, ownG_no, ownG_own, wipeE, dStep, lcStep, dYes, vFin, vOut, outR, outE, dLend, vLend, lendE, backE, flatR, lend_fzo, back_fzo, lend_fz, lend_no, lend_own1, lend_own0, back_fz, back_no, back_own1, back_own0, flat_ints, flatO_ints, yPlain, yNil, vYSeq, ySeq, vYield, yYield, yFor, vGen, fzE, gnD, noE, vListG, dListG, gAddI, gMulI, dLit, dFmt, vFmt, dJs, dJoin, gStr, dCallB, vCallB, keepOwn, isOwn, res, frz, frzs, flat, O.bind_ok, O.bind_bad, O.bind_exn, List.nodup_cons, List.nodup_nil, List.not_mem_nil, List.mem_cons, List.mem_singleton, not_false_eq_true, and_true, true_and, List.contains_cons, List.contains_nil, Nat.zero_add, List.getElem?_nil, List.getElem?_cons_zero, List.getElem?_cons_succ, List.set_cons_zero, List.set_cons_succ, Option.map_some, Option.map_none, if_true, if_false, Bool.and_true, Bool.true_and, Bool.and_false, Bool.false_and, Bool.or_true, Bool.true_or, Bool.or_false, Bool.false_or, Bool.not_true, Bool.not_false, List.length_cons, List.length_nil, List.append_nil, List.cons_append, List.nil_append, List.replicate_succ, List.replicate_zero, decide_true, decide_false, ↓reduceIte, Int.cast_ofNat_Int, Int.reduceLE, Int.reduceLT, Int.reduceToNat, Int.reduceAdd, Int.reduceSub, Int.reduceMul, Int.reduceNeg, Int.reduceEq, Int.reduceNe, Int.reduceBEq, Int.reduceBNe, Int.reduceGT, Int.reduceGE, ne_eq, Nat.reduceAdd, Nat.reduceLeDiff, Nat.reduceEqDiff, Nat.reduceSub, Nat.reduceMul, Nat.reduceLT, Nat.reduceBEq, String.reduceEq, reduceCtorEq, beq_self_eq_true, List.map_cons, List.map_nil, List.reverse_nil, e1, hn, e2, e3, List.length_map, hf, e4, e5, e6, e7, mD, tI]
theorem cnt_step (n p i : Int) (hn : 0 < n) (h1 : 1 ≤ p) (h2 : p ≤ n) : (i + 1 + n - p) / n = (i + n - p) / n + (if i % n + 1 = p then 1 else 0) := by
  have a1 := Int.mul_ediv_add_emod (i + n - p) n
  have a2 := Int.emod_nonneg (i + n - p) (show n ≠ 0 by omega)
  have a3 := Int.emod_lt_of_pos (i + n - p) hn
  have a4 := Int.mul_ediv_add_emod i n
  have a5 := Int.emod_nonneg i (show n ≠ 0 by omega)
  have a6 := Int.emod_lt_of_pos i hn
  generalize (i + n - p) / n = q at *
  generalize (i + n - p) % n = e at *
  by_cases h : e + 1 < n
  · have e1 : i + 1 + n - p = e + 1 + n * q := by omega
    rw [e1, Int.add_mul_ediv_left _ _ (by omega), Int.ediv_eq_zero_of_lt (by omega) h, if_neg]
    · omega
    · intro z
      have e2 : i + n - p = n * (i / n) + (n - 1) := by omega
      have e3 : (i + n - p) % n = n - 1 := by
        rw [e2, Int.add_comm, Int.add_mul_emod_self_left, Int.emod_eq_of_lt (by omega) (by omega)]
      have e4 : (i + n - p) % n = e := by
        rw [show i + n - p = e + n * q by omega, Int.add_mul_emod_self_left, Int.emod_eq_of_lt (by omega) (by omega)]
      omega
  · have e1 : i + 1 + n - p = 0 + n * (q + 1) := by rw [Int.mul_add, Int.mul_one]; omega
    rw [e1, Int.add_mul_ediv_left _ _ (by omega), Int.zero_ediv, if_pos]
    · omega
    · have e2 : i = (p - 1) + n * q := by omega
      rw [e2, Int.add_mul_emod_self_left, Int.emod_eq_of_lt (by omega) (by omega)]
      omega
theorem idx_get {x : List Int} {v : Int} (h : v ∈ x) : ∃ j : Nat, x.idxOf v = j ∧ ∃ hj : j < x.length, x[j] = v := ⟨x.idxOf v, rfl, List.idxOf_lt_length_of_mem h, List.getElem_idxOf _⟩
theorem L_given {n : Nat} {f s x : List Int} (m : VM n f s x) (S : Sl) (mo : Int) (K : Nat) : ∃ a b, dLoop g__law_given_1 b__law_given_1 (rangeD 0 K) [.fz (tI x), S, .own (lI (x.map fun _ => 0)), .fz (.int mo), .no, .no]
    = .ok .nx [.fz (tI x), S, .own (lI (x.map fun p => mo * (((K : Int) + n - p) / n))), .fz (.int mo), a, b] := by
  have n1 := m.n1
  have n2 := m.n2
  have h0 : ∃ a b, [Sl.fz (tI x), S, .own (lI (x.map fun _ => 0)), .fz (.int mo), .no, .no] = [.fz (tI x), S, .own (lI (x.map fun p => mo * ((((0 : Nat) : Int) + n - p) / n))), .fz (.int mo), a, b] := by
    refine ⟨.no, .no, ?_⟩
    have z : (x.map fun p => mo * ((((0 : Nat) : Int) + n - p) / n)) = x.map fun _ => 0 := by
      refine List.map_congr_left fun p hp => ?_
      have := m.rx p hp
      rw [show ((0 : Nat) : Int) + n - p = n - p by omega, Int.ediv_eq_zero_of_lt (by omega) (by omega), Int.mul_zero]
    rw [z]
  have st : ∀ (i : Nat) (d : D) (ε : En), (rangeD 0 K)[i]? = some d → (∃ a b, ε = [.fz (tI x), S, .own (lI (x.map fun p => mo * (((i : Int) + n - p) / n))), .fz (.int mo), a, b]) →
      ∃ ε2, dStep g__law_given_1 b__law_given_1 d ε = .ok .nx ε2 ∧ ∃ a b, ε2 = [.fz (tI x), S, .own (lI (x.map fun p => mo * ((((i + 1 : Nat) : Int) + n - p) / n))), .fz (.int mo), a, b] := by
    rintro i d ε hi ⟨a, b, hε⟩
    subst hε
    have hd : d = .int i := by
      obtain ⟨h, hd⟩ := List.getElem?_eq_some_iff.mp hi
      rw [← hd]
      simp [rangeD]
    subst hd
    have hm1 : ((i : Int).fmod n) = (i : Int) % n := Int.fmod_eq_emod_of_nonneg _ (by omega)
    have hm2 := Int.emod_nonneg (i : Int) (show (n : Int) ≠ 0 by omega)
    have hm3 := Int.emod_lt_of_pos (i : Int) (show (0 : Int) < n by omega)
    have hmem : (i : Int) % n + 1 ∈ x := m.full (by omega) (by omega)
    obtain ⟨j, hj1, hj2, hj3⟩ := idx_get hmem
    have hc : x.contains ((i : Int) % n + 1) = true := by simpa using hmem
    have n0 : decide (¬ ((n : Int) = 0)) = true := decide_eq_true (by omega)
    have hat : atI ((x.map fun p => mo * (((i : Int) + n - p) / n)).map D.int) (j : Int) = some (.int (mo * (((i : Int) + n - x[j]) / n))) := by
      rw [at_nat _ _ (by simpa using hj2)]
      simp [hj2]
    have hix : ixN ((x.map fun p => mo * (((i : Int) + n - p) / n)).map D.int).length (j : Int) = some j := by
      unfold ixN
      rw [if_pos (by omega), if_pos (by simpa using hj2)]
      simp
    have hset : ((x.map fun p => mo * (((i : Int) + n - p) / n)).map D.int).set j (.int (mo * (((i : Int) + n - x[j]) / n) + mo)) = (x.map fun p => mo * ((((i + 1 : Nat) : Int) + n - p) / n)).map D.int := by
      refine List.ext_getElem (by simp) fun q h1 h2 => ?_
      have hq : q < x.length := by simpa using h2
      have hr := m.rx x[q] (List.getElem_mem hq)
      rw [List.getElem_set]
      simp only [List.getElem_map]
      have cs := cnt_step n x[q] i (by omega) hr.1 hr.2
      rw [show ((i + 1 : Nat) : Int) + n - x[q] = (i : Int) + 1 + n - x[q] by omega, cs]
      by_cases h : j = q
      · subst h
        rw [if_pos rfl, if_pos hj3.symm, Int.mul_add, Int.mul_one]
      · rw [if_neg h, if_neg, Int.add_zero]
        intro z
        refine h ((List.getElem_inj (h₀ := hj2) (h₁ := hq) m.nd).mp ?_)
        rw [hj3, z]
    refine ⟨[.fz (tI x), S, .own (lI (x.map fun p => mo * ((((i + 1 : Nat) : Int) + n - p) / n))), .fz (.int mo), .fz (.int i), .fz (.int j)], ?_, _, _, rfl⟩
    have e0 : toIs (x.map D.int) = some x := toIs_of x
    have e1 : (((x.map D.int).length : Nat) : Int) = n := by rw [List.length_map, m.lx]
    unfold g__law_given_1 b__law_given_1 lI tI
    simp only [dVar, vSlot, dC, dOp2, vOp2, dOpA, vOpA, vAn, An.r, dTst, DL.vBool, vTru, dTru, truth, dAnd, dOr, dNot, dAndV, dOrV, dNotV, dIfE, dNil, dCons, dTup, vTup, dLst, vLst, dSkip, vSeq, dSeq, dIf, dRet, dDrop, vSto, vSet, dSet, vAsg, dAsg, gN, DL.gNil, DL.gCons, gTupD, dFor, vTurn, dUn, gNeg, dMul, vMul, isNew, gAdd, DL.gSub, gII, tt2, cdiv, gFdiv, cmod, gMod, cpow, gPow, gLt, gLe, gGt, gGe, gEq_ii, gNe_ii, dIsN, DL.isNon, dCh, vCh, vCh2, dON, dOS, dSl, vSl, gSubL, dAug, vAug, isFN, vPar, dPar, vM, dM, isL, mApp, mPopAt, mPop, gIdx, vTIdx, isT, dTIdx, gIx, dFn, vFn, ress, gLen, gIsi5, isTy, kn, gAll, gAny, gInt, gAbs, gMax2, gMin2, gSum, gMax1, gMin1, gSorted, gList, gTuple, dR1, dR2, vR1, vR2, dLRg, dTRg, dLenSet, vLenSet, dSeqI, vSeqI, itemsOf, dRng1, dRng2, vRng1, vRng2, dEnum, dZip2, dZip3, vEnum, vZip2, vZip3, dLC, vLC, dCall, vCall, frzM, cSl, cSls, upR, cRes, atsOf, fnD, ownIn_G, ownG_nil, ownG_fz, ownG_no, ownG_own, wipeE, dStep, lcStep, dYes, vFin, vOut, outR, outE, dLend, vLend, lendE, backE, flatR, lend_fzo, back_fzo, lend_fz, lend_no, lend_own1, lend_own0, back_fz, back_no, back_own1, back_own0, flat_ints, flatO_ints, yPlain, yNil, vYSeq, ySeq, vYield, yYield, yFor, vGen, fzE, gnD, noE, vListG, dListG, gAddI, gMulI, dLit, dFmt, vFmt, dJs, dJoin, gStr, dCallB, vCallB, keepOwn, isOwn, res, frz, frzs, flat, O.bind_ok, O.bind_bad, O.bind_exn, List.nodup_cons, List.nodup_nil, List.not_mem_nil, List.mem_cons, List.mem_singleton, not_false_eq_true, and_true, true_and, List.contains_cons, List.contains_nil, Nat.zero_add, List.getElem?_nil, List.getElem?_cons_zero, List.getElem?_cons_succ, List.set_cons_zero, List.set_cons_succ, Option.map_some, Option.map_none, if_true, if_false, Bool.and_true, Bool.true_and, Bool.and_false, Bool.false_and, Bool.or_true, Bool.true_or, Bool.or_false, Bool.false_or, Bool.not_true, Bool.not_false, List.length_cons, List.length_nil, List.append_nil, List.cons_append, List.nil_append, List.replicate_succ, List.replicate_zero, decide_true, decide_false, ↓reduceIte, Int.cast_ofNat_Int, Int.reduceLE, Int.reduceLT, Int.reduceToNat, Int.reduceAdd, Int.reduceSub, Int.reduceMul, Int.reduceNeg, Int.reduceEq, Int.reduceNe, Int.reduceBEq, Int.reduceBNe, Int.reduceGT, Int.reduceGE, ne_eq, Nat.reduceAdd, Nat.reduceLeDiff, Nat.reduceEqDiff, Nat.reduceSub, Nat.reduceMul, Nat.reduceLT, Nat.reduceBEq, String.reduceEq, reduceCtorEq, beq_self_eq_true, List.map_cons, List.map_nil, List.reverse_nil, e1, e0, hm1, n0, hc, hj1, hat, hix, hset]
  obtain ⟨ε', e, a, b, hε⟩ := dLoop_from (fun i ε => ∃ a b, ε = [.fz (tI x), S, .own (lI (x.map fun p => mo * (((i : Int) + n - p) / n))), .fz (.int mo), a, b]) h0 st
  rw [rangeD_length] at hε
  exact ⟨a, b, by rw [e, hε]⟩
theorem rep0 (x : List Int) : rep ((x.length : Nat) : Int) [D.int 0] = (x.map fun _ => (0 : Int)).map D.int := by
  unfold rep
  rw [Int.toNat_natCast]
  induction x with
  | nil => rfl
  | cons a x ih => rw [List.length_cons, List.replicate_succ, List.flatten_cons, ih]; rfl
theorem atH_pos (n p k : Int) (hn : 0 < n) (hp : 1 ≤ p ∧ p ≤ n) (hk : 0 < k) : 1 * ((k + n - p) / n) = atH n p k := by
  unfold atH
  rw [if_neg (by omega), Int.fdiv_eq_ediv_of_nonneg _ (by omega), Int.one_mul]
theorem atH_neg (n p k : Int) (hn : 0 < n) (hp : 1 ≤ p ∧ p ≤ n) (hk : ¬ 0 < k) : -1 * ((-k + n - p) / n) = atH n p k := by
  unfold atH
  by_cases h : k < 0
  · rw [if_pos h, Int.fdiv_eq_ediv_of_nonneg _ (by omega)]; omega
  · have : k = 0 := by omega
    subst this
    rw [if_neg h, Int.fdiv_eq_ediv_of_nonneg _ (by omega), show (-0 : Int) + n - p = n - p by omega, show (0 : Int) + n - p = n - p by omega, Int.ediv_eq_zero_of_lt (by omega) (by omega)]
    rfl
theorem x_given {n : Nat} {f s x : List Int} (m : VM n f s x) (k : Int) (hk : -1000 ≤ k ∧ k ≤ 1000) : φ__law_given [.fz (tI x), .fz (.int k)] = .ok (.new (lI (x.map fun p => atH n p k))) [.fz (tI x), .fz (.int k)] := by
  have n1 := m.n1
  have n2 := m.n2
  have hl : (((x.map D.int).length : Nat) : Int) = n := by rw [List.length_map, m.lx]
  have r0 : rep (n : Int) [D.int 0] = (x.map fun _ => (0 : Int)).map D.int := by
    have := rep0 x
    rw [m.lx] at this
    exact this
  have c1 : decide ((-1000000 : Int) ≤ (n : Int)) = true := decide_eq_true (by omega)
  have c2 : decide ((n : Int) ≤ 1000000) = true := decide_eq_true (by omega)
  have c3 : decide (1 * ((n : Int)).toNat ≤ 1000000) = true := decide_eq_true (by omega)
  have sm : smallI k = true := smallI_of (by omega)
  have sm' : smallI (-k) = true := smallI_of (by omega)
  by_cases h : 0 < k
  · obtain ⟨a, b, e⟩ := L_given m (.fz (.int k)) 1 k.toNat
    have hz : ¬ k < 0 := by omega
    have em : (x.map fun p => 1 * ((((k.toNat : Nat) : Int) + n - p) / n)) = x.map fun p => atH n p k := List.map_congr_left fun p hp => by
      rw [show ((k.toNat : Nat) : Int) = k by omega]
      exact atH_pos n p k (by omega) (m.rx p hp) h
    rw [em] at e
    unfold φ__law_given
    unfold lI tI at *
    simp only [dVar, vSlot, dC, dOp2, vOp2, dOpA, vOpA, vAn, An.r, dTst, DL.vBool, vTru, dTru, truth, dAnd, dOr, dNot, dAndV, dOrV, dNotV, dIfE, dNil, dCons, dTup, vTup, dLst, vLst, dSkip, vSeq, dSeq, dIf, dRet, dDrop, vSto, vSet, dSet, vAsg, dAsg, gN, DL.gNil, DL.gCons, gTupD, dFor, vTurn, dUn, gNeg, dMul, vMul, isNew, gAdd, DL.gSub, gII, tt2, cdiv, gFdiv, cmod, gMod, cpow, gPow, gLt, gLe, gGt, gGe, gEq_ii, gNe_ii, dIsN, DL.isNon, dCh, vCh, vCh2, dON, dOS, dSl, vSl, gSubL, dAug, vAug, isFN, vPar, dPar, vM, dM, isL, mApp, mPopAt, mPop, gIdx, vTIdx, isT, dTIdx, gIx, dFn, vFn, ress, gLen, gIsi5, isTy, kn, gAll, gAny, gInt, gAbs, gMax2, gMin2, gSum, gMax1, gMin1, gSorted, gList, gTuple, dR1, dR2, vR1, vR2, dLRg, dTRg, dLenSet, vLenSet, dSeqI, vSeqI, itemsOf, dRng1, dRng2, vRng1, vRng2, dEnum, dZip2, dZip3, vEnum, vZip2, vZip3, dLC, vLC, dCall, vCall, frzM, cSl, cSls, upR, cRes, atsOf, fnD, ownIn_G, ownG_nil, ownG_fz, ownG_no, ownG_own, wipeE, dStep, lcStep, dYes, vFin, vOut, outR, outE, dLend, vLend, lendE, backE, flatR, lend_fzo, back_fzo, lend_fz, lend_no, lend_own1, lend_own0, back_fz, back_no, back_own1, back_own0, flat_ints, flatO_ints, yPlain, yNil, vYSeq, ySeq, vYield, yYield, yFor, vGen, fzE, gnD, noE, vListG, dListG, gAddI, gMulI, dLit, dFmt, vFmt, dJs, dJoin, gStr, dCallB, vCallB, keepOwn, isOwn, res, frz, frzs, flat, O.bind_ok, O.bind_bad, O.bind_exn, List.nodup_cons, List.nodup_nil, List.not_mem_nil, List.mem_cons, List.mem_singleton, not_false_eq_true, and_true, true_and, List.contains_cons, List.contains_nil, Nat.zero_add, List.getElem?_nil, List.getElem?_cons_zero, List.getElem?_cons_succ, List.set_cons_zero, List.set_cons_succ, Option.map_some, Option.map_none, if_true, if_false, Bool.and_true, Bool.true_and, Bool.and_false, Bool.false_and, Bool.or_true, Bool.true_or, Bool.or_false, Bool.false_or, Bool.not_true, Bool.not_false, List.length_cons, List.length_nil, List.append_nil, List.cons_append, List.nil_append, List.replicate_succ, List.replicate_zero, decide_true, decide_false, ↓reduceIte, Int.cast_ofNat_Int, Int.reduceLE, Int.reduceLT, Int.reduceToNat, Int.reduceAdd, Int.reduceSub, Int.reduceMul, Int.reduceNeg, Int.reduceEq, Int.reduceNe, Int.reduceBEq, Int.reduceBNe, Int.reduceGT, Int.reduceGE, ne_eq, Nat.reduceAdd, Nat.reduceLeDiff, Nat.reduceEqDiff, Nat.reduceSub, Nat.reduceMul, Nat.reduceLT, Nat.reduceBEq, String.reduceEq, reduceCtorEq, beq_self_eq_true, List.map_cons, List.map_nil, List.reverse_nil, hl, r0, c1, c2, c3, sm, h, hz, e, Nat.zero_add]
  · obtain ⟨a, b, e⟩ := L_given m (.fz (.int k)) (-1) (-k).toNat
    have em : (x.map fun p => -1 * (((((-k).toNat : Nat) : Int) + n - p) / n)) = x.map fun p => atH n p k := List.map_congr_left fun p hp => by
      rw [show (((-k).toNat : Nat) : Int) = -k by omega]
      exact atH_neg n p k (by omega) (m.rx p hp) h
    rw [em] at e
    unfold φ__law_given
    unfold lI tI at *
    by_cases hz : k < 0
    · simp only [dVar, vSlot, dC, dOp2, vOp2, dOpA, vOpA, vAn, An.r, dTst, DL.vBool, vTru, dTru, truth, dAnd, dOr, dNot, dAndV, dOrV, dNotV, dIfE, dNil, dCons, dTup, vTup, dLst, vLst, dSkip, vSeq, dSeq, dIf, dRet, dDrop, vSto, vSet, dSet, vAsg, dAsg, gN, DL.gNil, DL.gCons, gTupD, dFor, vTurn, dUn, gNeg, dMul, vMul, isNew, gAdd, DL.gSub, gII, tt2, cdiv, gFdiv, cmod, gMod, cpow, gPow, gLt, gLe, gGt, gGe, gEq_ii, gNe_ii, dIsN, DL.isNon, dCh, vCh, vCh2, dON, dOS, dSl, vSl, gSubL, dAug, vAug, isFN, vPar, dPar, vM, dM, isL, mApp, mPopAt, mPop, gIdx, vTIdx, isT, dTIdx, gIx, dFn, vFn, ress, gLen, gIsi5, isTy, kn, gAll, gAny, gInt, gAbs, gMax2, gMin2, gSum, gMax1, gMin1, gSorted, gList, gTuple, dR1, dR2, vR1, vR2, dLRg, dTRg, dLenSet, vLenSet, dSeqI, vSeqI, itemsOf, dRng1, dRng2, vRng1, vRng2, dEnum, dZip2, dZip3, vEnum, vZip2, vZip3, dLC, vLC, dCall, vCall, frzM, cSl, cSls, upR, cRes, atsOf, fnD, ownIn_G, ownG_nil, ownG_fz, ownG_no, ownG_own, wipeE, dStep, lcStep, dYes, vFin, vOut, outR, outE, dLend, vLend, lendE, backE, flatR, lend_fzo, back_fzo, lend_fz, lend_no, lend_own1, lend_own0, back_fz, back_no, back_own1, back_own0, flat_ints, flatO_ints, yPlain, yNil, vYSeq, ySeq, vYield, yYield, yFor, vGen, fzE, gnD, noE, vListG, dListG, gAddI, gMulI, dLit, dFmt, vFmt, dJs, dJoin, gStr, dCallB, vCallB, keepOwn, isOwn, res, frz, frzs, flat, O.bind_ok, O.bind_bad, O.bind_exn, List.nodup_cons, List.nodup_nil, List.not_mem_nil, List.mem_cons, List.mem_singleton, not_false_eq_true, and_true, true_and, List.contains_cons, List.contains_nil, Nat.zero_add, List.getElem?_nil, List.getElem?_cons_zero, List.getElem?_cons_succ, List.set_cons_zero, List.set_cons_succ, Option.map_some, Option.map_none, if_true, if_false, Bool.and_true, Bool.true_and, Bool.and_false, Bool.false_and, Bool.or_true, Bool.true_or, Bool.or_false, Bool.false_or, Bool.not_true, Bool.not_false, List.length_cons, List.length_nil, List.append_nil, List.cons_append, List.nil_append, List.replicate_succ, List.replicate_zero, decide_true, decide_false, ↓reduceIte, Int.cast_ofNat_Int, Int.reduceLE, Int.reduceLT, Int.reduceToNat, Int.reduceAdd, Int.reduceSub, Int.reduceMul, Int.reduceNeg, Int.reduceEq, Int.reduceNe, Int.reduceBEq, Int.reduceBNe, Int.reduceGT, Int.reduceGE, ne_eq, Nat.reduceAdd, Nat.reduceLeDiff, Nat.reduceEqDiff, Nat.reduceSub, Nat.reduceMul, Nat.reduceLT, Nat.reduceBEq, String.reduceEq, reduceCtorEq, beq_self_eq_true, List.map_cons, List.map_nil, List.reverse_nil, hl, r0, c1, c2, c3, sm', h, hz, e, Nat.zero_add]
    · have : k = 0 := by omega
      subst this
      rw [show (-(0 : Int)).toNat = 0 from rfl] at e
      simp only [dVar, vSlot, dC, dOp2, vOp2, dOpA, vOpA, vAn, An.r, dTst, DL.vBool, vTru, dTru, truth, dAnd, dOr, dNot, dAndV, dOrV, dNotV, dIfE, dNil, dCons, dTup, vTup, dLst, vLst, dSkip, vSeq, dSeq, dIf, dRet, dDrop, vSto, vSet, dSet, vAsg, dAsg, gN, DL.gNil, DL.gCons, gTupD, dFor, vTurn, dUn, gNeg, dMul, vMul, isNew, gAdd, DL.gSub, gII, tt2, cdiv, gFdiv, cmod, gMod, cpow, gPow, gLt, gLe, gGt, gGe, gEq_ii, gNe_ii, dIsN, DL.isNon, dCh, vCh, vCh2, dON, dOS, dSl, vSl, gSubL, dAug, vAug, isFN, vPar, dPar, vM, dM, isL, mApp, mPopAt, mPop, gIdx, vTIdx, isT, dTIdx, gIx, dFn, vFn, ress, gLen, gIsi5, isTy, kn, gAll, gAny, gInt, gAbs, gMax2, gMin2, gSum, gMax1, gMin1, gSorted, gList, gTuple, dR1, dR2, vR1, vR2, dLRg, dTRg, dLenSet, vLenSet, dSeqI, vSeqI, itemsOf, dRng1, dRng2, vRng1, vRng2, dEnum, dZip2, dZip3, vEnum, vZip2, vZip3, dLC, vLC, dCall, vCall, frzM, cSl, cSls, upR, cRes, atsOf, fnD, ownIn_G, ownG_nil, ownG_fz, ownG_no, ownG_own, wipeE, dStep, lcStep, dYes, vFin, vOut, outR, outE, dLend, vLend, lendE, backE, flatR, lend_fzo, back_fzo, lend_fz, lend_no, lend_own1, lend_own0, back_fz, back_no, back_own1, back_own0, flat_ints, flatO_ints, yPlain, yNil, vYSeq, ySeq, vYield, yYield, yFor, vGen, fzE, gnD, noE, vListG, dListG, gAddI, gMulI, dLit, dFmt, vFmt, dJs, dJoin, gStr, dCallB, vCallB, keepOwn, isOwn, res, frz, frzs, flat, O.bind_ok, O.bind_bad, O.bind_exn, List.nodup_cons, List.nodup_nil, List.not_mem_nil, List.mem_cons, List.mem_singleton, not_false_eq_true, and_true, true_and, List.contains_cons, List.contains_nil, Nat.zero_add, List.getElem?_nil, List.getElem?_cons_zero, List.getElem?_cons_succ, List.set_cons_zero, List.set_cons_succ, Option.map_some, Option.map_none, if_true, if_false, Bool.and_true, Bool.true_and, Bool.and_false, Bool.false_and, Bool.or_true, Bool.true_or, Bool.or_false, Bool.false_or, Bool.not_true, Bool.not_false, List.length_cons, List.length_nil, List.append_nil, List.cons_append, List.nil_append, List.replicate_succ, List.replicate_zero, decide_true, decide_false, ↓reduceIte, Int.cast_ofNat_Int, Int.reduceLE, Int.reduceLT, Int.reduceToNat, Int.reduceAdd, Int.reduceSub, Int.reduceMul, Int.reduceNeg, Int.reduceEq, Int.reduceNe, Int.reduceBEq, Int.reduceBNe, Int.reduceGT, Int.reduceGE, ne_eq, Nat.reduceAdd, Nat.reduceLeDiff, Nat.reduceEqDiff, Nat.reduceSub, Nat.reduceMul, Nat.reduceLT, Nat.reduceBEq, String.reduceEq, reduceCtorEq, beq_self_eq_true, List.map_cons, List.map_nil, List.reverse_nil, hl, r0, c1, c2, c3, sm, h, hz, e, Nat.zero_add]
def pts (a b c : List Int) : List Int := (a.zip (b.zip c)).map fun t => (if t.1 - t.2.2 < t.2.1 then 1 else 0) - (if t.1 - t.2.2 > t.2.1 then 1 else 0)
theorem L_points (S0 S1 : Sl) : ∀ (ts : List (Int × Int × Int)) (acc : List Int) (a b c : Sl), acc.length + ts.length ≤ 1000 →
    ∃ a' b' c', dLoop g__law_points_1 b__law_points_1 (ts.map e3) [S0, S1, .own (lI acc), a, b, c] = .ok .nx [S0, S1, .own (lI (acc ++ ts.map fun t => (if t.1 - t.2.2 < t.2.1 then 1 else 0) - (if t.1 - t.2.2 > t.2.1 then 1 else 0))), a', b', c']
  | [], acc, a, b, c, _ => ⟨a, b, c, by rw [List.map_nil, dLoop_nil, List.map_nil, List.append_nil]⟩
  | t :: ts, acc, a, b, c, h => by
    rw [List.length_cons] at h
    obtain ⟨a', b', c', ih⟩ := L_points S0 S1 ts (acc ++ [(if t.1 - t.2.2 < t.2.1 then 1 else 0) - (if t.1 - t.2.2 > t.2.1 then 1 else 0)]) (.fz (.int t.1)) (.fz (.int t.2.1)) (.fz (.int t.2.2)) (by simp; omega)
    refine ⟨a', b', c', ?_⟩
    have st : dStep g__law_points_1 b__law_points_1 (e3 t) [S0, S1, .own (lI acc), a, b, c] = .ok .nx [S0, S1, .own (lI (acc ++ [(if t.1 - t.2.2 < t.2.1 then 1 else 0) - (if t.1 - t.2.2 > t.2.1 then 1 else 0)])), .fz (.int t.1), .fz (.int t.2.1), .fz (.int t.2.2)] := by
      have l1 : acc.length < 1000000 := by omega
      unfold g__law_points_1 b__law_points_1 e3 lI
      by_cases h1 : t.1 - t.2.2 < t.2.1
      · have h2 : ¬ t.1 - t.2.2 > t.2.1 := by omega
        have h2' : ¬ t.2.1 < t.1 - t.2.2 := by omega
        simp only [dVar, vSlot, dC, dOp2, vOp2, dOpA, vOpA, vAn, An.r, dTst, DL.vBool, vTru, dTru, truth, dAnd, dOr, dNot, dAndV, dOrV, dNotV, dIfE, dNil, dCons, dTup, vTup, dLst, vLst, dSkip, vSeq, dSeq, dIf, dRet, dDrop, vSto, vSet, dSet, vAsg, dAsg, gN, DL.gNil, DL.gCons, gTupD, dFor, vTurn, dUn, gNeg, dMul, vMul, isNew, gAdd, DL.gSub, gII, tt2, cdiv, gFdiv, cmod, gMod, cpow, gPow, gLt, gLe, gGt, gGe, gEq_ii, gNe_ii, dIsN, DL.isNon, dCh, vCh, vCh2, dON, dOS, dSl, vSl, gSubL, dAug, vAug, isFN, vPar, dPar, vM, dM, isL, mApp, mPopAt, mPop, gIdx, vTIdx, isT, dTIdx, gIx, dFn, vFn, ress, gLen, gIsi5, isTy, kn, gAll, gAny, gInt, gAbs, gMax2, gMin2, gSum, gMax1, gMin1, gSorted, gList, gTuple, dR1, dR2, vR1, vR2, dLRg, dTRg, dLenSet, vLenSet, dSeqI, vSeqI, itemsOf, dRng1, dRng2, vRng1, vRng2, dEnum, dZip2, dZip3, vEnum, vZip2, vZip3, dLC, vLC, dCall, vCall, frzM, cSl, cSls, upR, cRes, atsOf, fnD, ownIn_G, ownG_nil, ownG_fz, ownG_no, ownG_own, wipeE, dStep, lcStep, dYes, vFin, vOut, outR, outE, dLend, vLend, lendE, backE, flatR, lend_fzo, back_fzo, lend_fz, lend_no, lend_own1, lend_own0, back_fz, back_no, back_own1, back_own0, flat_ints, flatO_ints, yPlain, yNil, vYSeq, ySeq, vYield, yYield, yFor, vGen, fzE, gnD, noE, vListG, dListG, gAddI, gMulI, dLit, dFmt, vFmt, dJs, dJoin, gStr, dCallB, vCallB, keepOwn, isOwn, res, frz, frzs, flat, O.bind_ok, O.bind_bad, O.bind_exn, List.nodup_cons, List.nodup_nil, List.not_mem_nil, List.mem_cons, List.mem_singleton, not_false_eq_true, and_true, true_and, List.contains_cons, List.contains_nil, Nat.zero_add, List.getElem?_nil, List.getElem?_cons_zero, List.getElem?_cons_succ, List.set_cons_zero, List.set_cons_succ, Option.map_some, Option.map_none, if_true, if_false, Bool.and_true, Bool.true_and, Bool.and_false, Bool.false_and, Bool.or_true, Bool.true_or, Bool.or_false, Bool.false_or, Bool.not_true, Bool.not_false, List.length_cons, List.length_nil, List.append_nil, List.cons_append, List.nil_append, List.replicate_succ, List.replicate_zero, decide_true, decide_false, ↓reduceIte, Int.cast_ofNat_Int, Int.reduceLE, Int.reduceLT, Int.reduceToNat, Int.reduceAdd, Int.reduceSub, Int.reduceMul, Int.reduceNeg, Int.reduceEq, Int.reduceNe, Int.reduceBEq, Int.reduceBNe, Int.reduceGT, Int.reduceGE, ne_eq, Nat.reduceAdd, Nat.reduceLeDiff, Nat.reduceEqDiff, Nat.reduceSub, Nat.reduceMul, Nat.reduceLT, Nat.reduceBEq, String.reduceEq, reduceCtorEq, beq_self_eq_true, List.map_cons, List.map_nil, List.reverse_nil, l1, List.length_map, List.map_append, h1, h2, h2']
      · by_cases h2 : t.1 - t.2.2 > t.2.1
        · have h2' : t.2.1 < t.1 - t.2.2 := by omega
          simp only [dVar, vSlot, dC, dOp2, vOp2, dOpA, vOpA, vAn, An.r, dTst, DL.vBool, vTru, dTru, truth, dAnd, dOr, dNot, dAndV, dOrV, dNotV, dIfE, dNil, dCons, dTup, vTup, dLst, vLst, dSkip, vSeq, dSeq, dIf, dRet, dDrop, vSto, vSet, dSet, vAsg, dAsg, gN, DL.gNil, DL.gCons, gTupD, dFor, vTurn, dUn, gNeg, dMul, vMul, isNew, gAdd, DL.gSub, gII, tt2, cdiv, gFdiv, cmod, gMod, cpow, gPow, gLt, gLe, gGt, gGe, gEq_ii, gNe_ii, dIsN, DL.isNon, dCh, vCh, vCh2, dON, dOS, dSl, vSl, gSubL, dAug, vAug, isFN, vPar, dPar, vM, dM, isL, mApp, mPopAt, mPop, gIdx, vTIdx, isT, dTIdx, gIx, dFn, vFn, ress, gLen, gIsi5, isTy, kn, gAll, gAny, gInt, gAbs, gMax2, gMin2, gSum, gMax1, gMin1, gSorted, gList, gTuple, dR1, dR2, vR1, vR2, dLRg, dTRg, dLenSet, vLenSet, dSeqI, vSeqI, itemsOf, dRng1, dRng2, vRng1, vRng2, dEnum, dZip2, dZip3, vEnum, vZip2, vZip3, dLC, vLC, dCall, vCall, frzM, cSl, cSls, upR, cRes, atsOf, fnD, ownIn_G, ownG_nil, ownG_fz, ownG_no, ownG_own, wipeE, dStep, lcStep, dYes, vFin, vOut, outR, outE, dLend, vLend, lendE, backE, flatR, lend_fzo, back_fzo, lend_fz, lend_no, lend_own1, lend_own0, back_fz, back_no, back_own1, back_own0, flat_ints, flatO_ints, yPlain, yNil, vYSeq, ySeq, vYield, yYield, yFor, vGen, fzE, gnD, noE, vListG, dListG, gAddI, gMulI, dLit, dFmt, vFmt, dJs, dJoin, gStr, dCallB, vCallB, keepOwn, isOwn, res, frz, frzs, flat, O.bind_ok, O.bind_bad, O.bind_exn, List.nodup_cons, List.nodup_nil, List.not_mem_nil, List.mem_cons, List.mem_singleton, not_false_eq_true, and_true, true_and, List.contains_cons, List.contains_nil, Nat.zero_add, List.getElem?_nil, List.getElem?_cons_zero, List.getElem?_cons_succ, List.set_cons_zero, List.set_cons_succ, Option.map_some, Option.map_none, if_true, if_false, Bool.and_true, Bool.true_and, Bool.and_false, Bool.false_and, Bool.or_true, Bool.true_or, Bool.or_false, Bool.false_or, Bool.not_true, Bool.not_false, List.length_cons, List.length_nil, List.append_nil, List.cons_append, List.nil_append, List.replicate_succ, List.replicate_zero, decide_true, decide_false, ↓reduceIte, Int.cast_ofNat_Int, Int.reduceLE, Int.reduceLT, Int.reduceToNat, Int.reduceAdd, Int.reduceSub, Int.reduceMul, Int.reduceNeg, Int.reduceEq, Int.reduceNe, Int.reduceBEq, Int.reduceBNe, Int.reduceGT, Int.reduceGE, ne_eq, Nat.reduceAdd, Nat.reduceLeDiff, Nat.reduceEqDiff, Nat.reduceSub, Nat.reduceMul, Nat.reduceLT, Nat.reduceBEq, String.reduceEq, reduceCtorEq, beq_self_eq_true, List.map_cons, List.map_nil, List.reverse_nil, l1, List.length_map, List.map_append, h1, h2, h2']
        · have h2' : ¬ t.2.1 < t.1 - t.2.2 := by omega
          simp only [dVar, vSlot, dC, dOp2, vOp2, dOpA, vOpA, vAn, An.r, dTst, DL.vBool, vTru, dTru, truth, dAnd, dOr, dNot, dAndV, dOrV, dNotV, dIfE, dNil, dCons, dTup, vTup, dLst, vLst, dSkip, vSeq, dSeq, dIf, dRet, dDrop, vSto, vSet, dSet, vAsg, dAsg, gN, DL.gNil, DL.gCons, gTupD, dFor, vTurn, dUn, gNeg, dMul, vMul, isNew, gAdd, DL.gSub, gII, tt2, cdiv, gFdiv, cmod, gMod, cpow, gPow, gLt, gLe, gGt, gGe, gEq_ii, gNe_ii, dIsN, DL.isNon, dCh, vCh, vCh2, dON, dOS, dSl, vSl, gSubL, dAug, vAug, isFN, vPar, dPar, vM, dM, isL, mApp, mPopAt, mPop, gIdx, vTIdx, isT, dTIdx, gIx, dFn, vFn, ress, gLen, gIsi5, isTy, kn, gAll, gAny, gInt, gAbs, gMax2, gMin2, gSum, gMax1, gMin1, gSorted, gList, gTuple, dR1, dR2, vR1, vR2, dLRg, dTRg, dLenSet, vLenSet, dSeqI, vSeqI, itemsOf, dRng1, dRng2, vRng1, vRng2, dEnum, dZip2, dZip3, vEnum, vZip2, vZip3, dLC, vLC, dCall, vCall, frzM, cSl, cSls, upR, cRes, atsOf, fnD, ownIn_G, ownG_nil, ownG_fz, ownG_no, ownG_own, wipeE, dStep, lcStep, dYes, vFin, vOut, outR, outE, dLend, vLend, lendE, backE, flatR, lend_fzo, back_fzo, lend_fz, lend_no, lend_own1, lend_own0, back_fz, back_no, back_own1, back_own0, flat_ints, flatO_ints, yPlain, yNil, vYSeq, ySeq, vYield, yYield, yFor, vGen, fzE, gnD, noE, vListG, dListG, gAddI, gMulI, dLit, dFmt, vFmt, dJs, dJoin, gStr, dCallB, vCallB, keepOwn, isOwn, res, frz, frzs, flat, O.bind_ok, O.bind_bad, O.bind_exn, List.nodup_cons, List.nodup_nil, List.not_mem_nil, List.mem_cons, List.mem_singleton, not_false_eq_true, and_true, true_and, List.contains_cons, List.contains_nil, Nat.zero_add, List.getElem?_nil, List.getElem?_cons_zero, List.getElem?_cons_succ, List.set_cons_zero, List.set_cons_succ, Option.map_some, Option.map_none, if_true, if_false, Bool.and_true, Bool.true_and, Bool.and_false, Bool.false_and, Bool.or_true, Bool.true_or, Bool.or_false, Bool.false_or, Bool.not_true, Bool.not_false, List.length_cons, List.length_nil, List.append_nil, List.cons_append, List.nil_append, List.replicate_succ, List.replicate_zero, decide_true, decide_false, ↓reduceIte, Int.cast_ofNat_Int, Int.reduceLE, Int.reduceLT, Int.reduceToNat, Int.reduceAdd, Int.reduceSub, Int.reduceMul, Int.reduceNeg, Int.reduceEq, Int.reduceNe, Int.reduceBEq, Int.reduceBNe, Int.reduceGT, Int.reduceGE, ne_eq, Nat.reduceAdd, Nat.reduceLeDiff, Nat.reduceEqDiff, Nat.reduceSub, Nat.reduceMul, Nat.reduceLT, Nat.reduceBEq, String.reduceEq, reduceCtorEq, beq_self_eq_true, List.map_cons, List.map_nil, List.reverse_nil, l1, List.length_map, List.map_append, h1, h2, h2']
    rw [List.map_cons, dLoop_cons, st]
    show dLoop g__law_points_1 b__law_points_1 (ts.map e3) _ = _
    rw [ih, List.map_cons, List.append_assoc]
    rfl
theorem x_points {n : Nat} {f s x : List Int} (m : VM n f s x) (k : Int) (hk : -1000 ≤ k ∧ k ≤ 1000) : φ__law_points [.fz (mD f s x), .fz (.int k)] = .ok (.new (lI (pts f s (x.map fun p => atH n p k)))) [.fz (mD f s x), .fz (.int k)] := by
  have n2 := m.n2
  obtain ⟨a, b, c, e⟩ := L_points (.fz (mD f s x)) (.fz (.int k)) (f.zip (s.zip (x.map fun p => atH n p k))) [] .no .no .no (by rw [List.length_zip, m.lf]; simp; omega)
  have g := x_given m k hk
  unfold φ__law_points
  unfold mD lI tI at *
  rw [List.map_nil] at e
  simp only [dVar, vSlot, dC, dOp2, vOp2, dOpA, vOpA, vAn, An.r, dTst, DL.vBool, vTru, dTru, truth, dAnd, dOr, dNot, dAndV, dOrV, dNotV, dIfE, dNil, dCons, dTup, vTup, dLst, vLst, dSkip, vSeq, dSeq, dIf, dRet, dDrop, vSto, vSet, dSet, vAsg, dAsg, gN, DL.gNil, DL.gCons, gTupD, dFor, vTurn, dUn, gNeg, dMul, vMul, isNew, gAdd, DL.gSub, gII, tt2, cdiv, gFdiv, cmod, gMod, cpow, gPow, gLt, gLe, gGt, gGe, gEq_ii, gNe_ii, dIsN, DL.isNon, dCh, vCh, vCh2, dON, dOS, dSl, vSl, gSubL, dAug, vAug, isFN, vPar, dPar, vM, dM, isL, mApp, mPopAt, mPop, gIdx, vTIdx, isT, dTIdx, gIx, dFn, vFn, ress, gLen, gIsi5, isTy, kn, gAll, gAny, gInt, gAbs, gMax2, gMin2, gSum, gMax1, gMin1, gSorted, gList, gTuple, dR1, dR2, vR1, vR2, dLRg, dTRg, dLenSet, vLenSet, dSeqI, vSeqI, itemsOf, dRng1, dRng2, vRng1, vRng2, dEnum, dZip2, dZip3, vEnum, vZip2, vZip3, dLC, vLC, dCall, vCall, frzM, cSl, cSls, upR, cRes, atsOf, fnD, ownIn_G, ownG_nil, ownG_fz, ownG_no, ownG_own, wipeE, dStep, lcStep, dYes, vFin, vOut, outR, outE, dLend, vLend, lendE, backE, flatR, lend_fzo, back_fzo, lend_fz, lend_no, lend_own1, lend_own0, back_fz, back_no, back_own1, back_own0, flat_ints, flatO_ints, yPlain, yNil, vYSeq, ySeq, vYield, yYield, yFor, vGen, fzE, gnD, noE, vListG, dListG, gAddI, gMulI, dLit, dFmt, vFmt, dJs, dJoin, gStr, dCallB, vCallB, keepOwn, isOwn, res, frz, frzs, flat, O.bind_ok, O.bind_bad, O.bind_exn, List.nodup_cons, List.nodup_nil, List.not_mem_nil, List.mem_cons, List.mem_singleton, not_false_eq_true, and_true, true_and, List.contains_cons, List.contains_nil, Nat.zero_add, List.getElem?_nil, List.getElem?_cons_zero, List.getElem?_cons_succ, List.set_cons_zero, List.set_cons_succ, Option.map_some, Option.map_none, if_true, if_false, Bool.and_true, Bool.true_and, Bool.and_false, Bool.false_and, Bool.or_true, Bool.true_or, Bool.or_false, Bool.false_or, Bool.not_true, Bool.not_false, List.length_cons, List.length_nil, List.append_nil, List.cons_append, List.nil_append, List.replicate_succ, List.replicate_zero, decide_true, decide_false, ↓reduceIte, Int.cast_ofNat_Int, Int.reduceLE, Int.reduceLT, Int.reduceToNat, Int.reduceAdd, Int.reduceSub, Int.reduceMul, Int.reduceNeg, Int.reduceEq, Int.reduceNe, Int.reduceBEq, Int.reduceBNe, Int.reduceGT, Int.reduceGE, ne_eq, Nat.reduceAdd, Nat.reduceLeDiff, Nat.reduceEqDiff, Nat.reduceSub, Nat.reduceMul, Nat.reduceLT, Nat.reduceBEq, String.reduceEq, reduceCtorEq, beq_self_eq_true, List.map_cons, List.map_nil, List.reverse_nil, at0, at1, at2, g, zip3_e, e, pts]
theorem hl_pts {n : Nat} {f s x : List Int} (k : Int) : pts f s (x.map fun p => atH n p k) = hl n k f s x := by
  unfold pts hl
  rw [List.zip_map_right, List.zip_map_right, List.map_map]
  refine List.map_congr_left fun t _ => ?_
  show (if t.1 - atH n t.2.2 k < t.2.1 then 1 else 0) - (if t.1 - atH n t.2.2 k > t.2.1 then 1 else 0) = sgn (t.2.1 - t.1 + atH n t.2.2 k)
  unfold sgn
  generalize atH n t.2.2 k = z
  split <;> split <;> split <;> split <;> omega
theorem x_score {n : Nat} {f s x : List Int} (m : VM n f s x) (k : Int) (hk : -1000 ≤ k ∧ k ≤ 1000) : φ__law_score [.fz (mD f s x), .fz (.int k)] = .ok (.fz (.int (hl n k f s x).sum)) [.fz (mD f s x), .fz (.int k)] := by
  have e := x_points m k hk
  rw [hl_pts] at e
  unfold φ__law_score
  unfold lI at e
  simp only [dVar, vSlot, dC, dOp2, vOp2, dOpA, vOpA, vAn, An.r, dTst, DL.vBool, vTru, dTru, truth, dAnd, dOr, dNot, dAndV, dOrV, dNotV, dIfE, dNil, dCons, dTup, vTup, dLst, vLst, dSkip, vSeq, dSeq, dIf, dRet, dDrop, vSto, vSet, dSet, vAsg, dAsg, gN, DL.gNil, DL.gCons, gTupD, dFor, vTurn, dUn, gNeg, dMul, vMul, isNew, gAdd, DL.gSub, gII, tt2, cdiv, gFdiv, cmod, gMod, cpow, gPow, gLt, gLe, gGt, gGe, gEq_ii, gNe_ii, dIsN, DL.isNon, dCh, vCh, vCh2, dON, dOS, dSl, vSl, gSubL, dAug, vAug, isFN, vPar, dPar, vM, dM, isL, mApp, mPopAt, mPop, gIdx, vTIdx, isT, dTIdx, gIx, dFn, vFn, ress, gLen, gIsi5, isTy, kn, gAll, gAny, gInt, gAbs, gMax2, gMin2, gSum, gMax1, gMin1, gSorted, gList, gTuple, dR1, dR2, vR1, vR2, dLRg, dTRg, dLenSet, vLenSet, dSeqI, vSeqI, itemsOf, dRng1, dRng2, vRng1, vRng2, dEnum, dZip2, dZip3, vEnum, vZip2, vZip3, dLC, vLC, dCall, vCall, frzM, cSl, cSls, upR, cRes, atsOf, fnD, ownIn_G, ownG_nil, ownG_fz, ownG_no, ownG_own, wipeE, dStep, lcStep, dYes, vFin, vOut, outR, outE, dLend, vLend, lendE, backE, flatR, lend_fzo, back_fzo, lend_fz, lend_no, lend_own1, lend_own0, back_fz, back_no, back_own1, back_own0, flat_ints, flatO_ints, yPlain, yNil, vYSeq, ySeq, vYield, yYield, yFor, vGen, fzE, gnD, noE, vListG, dListG, gAddI, gMulI, dLit, dFmt, vFmt, dJs, dJoin, gStr, dCallB, vCallB, keepOwn, isOwn, res, frz, frzs, flat, O.bind_ok, O.bind_bad, O.bind_exn, List.nodup_cons, List.nodup_nil, List.not_mem_nil, List.mem_cons, List.mem_singleton, not_false_eq_true, and_true, true_and, List.contains_cons, List.contains_nil, Nat.zero_add, List.getElem?_nil, List.getElem?_cons_zero, List.getElem?_cons_succ, List.set_cons_zero, List.set_cons_succ, Option.map_some, Option.map_none, if_true, if_false, Bool.and_true, Bool.true_and, Bool.and_false, Bool.false_and, Bool.or_true, Bool.true_or, Bool.or_false, Bool.false_or, Bool.not_true, Bool.not_false, List.length_cons, List.length_nil, List.append_nil, List.cons_append, List.nil_append, List.replicate_succ, List.replicate_zero, decide_true, decide_false, ↓reduceIte, Int.cast_ofNat_Int, Int.reduceLE, Int.reduceLT, Int.reduceToNat, Int.reduceAdd, Int.reduceSub, Int.reduceMul, Int.reduceNeg, Int.reduceEq, Int.reduceNe, Int.reduceBEq, Int.reduceBNe, Int.reduceGT, Int.reduceGE, ne_eq, Nat.reduceAdd, Nat.reduceLeDiff, Nat.reduceEqDiff, Nat.reduceSub, Nat.reduceMul, Nat.reduceLT, Nat.reduceBEq, String.reduceEq, reduceCtorEq, beq_self_eq_true, List.map_cons, List.map_nil, List.reverse_nil, e, toIs_of]

theorem gEq_ll (l k : List Int) : gEq (.lst (l.map .int)) (.lst (k.map .int)) = some (.bl (decide (l = k))) := by
  unfold gEq
  rw [okq_lI, okq_lI]
  unfold deq
  rw [deqs_i]; rfl
theorem cut_any {α : Type} (l : List α) (k : Nat) : cut l none (some (k : Int)) = l.take k := by
  unfold cut
  rw [HT.sIx_none, HT.sIx_nat, List.drop_zero, Nat.sub_zero]
  by_cases h : k ≤ l.length
  · rw [Nat.min_eq_left h]
  · rw [Nat.min_eq_right (by omega), List.take_length, List.take_of_length_le (by omega)]

/-- the sort of a datum -/
def sortN : D → Int
  | .bl _ => 1 | .int _ => 2 | .str _ => 3 | .lst _ => 4 | .tup _ => 5 | _ => 6
theorem x_sort (d : D) (h : kn d ≤ 5) : φ__law_sort [.fz d] = .ok (.fz (.int (sortN d))) [.fz d] := by
  unfold φ__law_sort
  cases d with
  | non => simp only [dVar, vSlot, dC, dOp2, vOp2, dOpA, vOpA, vAn, An.r, dTst, DL.vBool, vTru, dTru, truth, dAnd, dOr, dNot, dAndV, dOrV, dNotV, dIfE, dNil, dCons, dTup, vTup, dLst, vLst, dSkip, vSeq, dSeq, dIf, dRet, dDrop, vSto, vSet, dSet, vAsg, dAsg, gN, DL.gNil, DL.gCons, gTupD, dFor, vTurn, dUn, gNeg, dMul, vMul, isNew, gAdd, DL.gSub, gII, tt2, cdiv, gFdiv, cmod, gMod, cpow, gPow, gLt, gLe, gGt, gGe, gEq_ii, gNe_ii, dIsN, DL.isNon, dCh, vCh, vCh2, dON, dOS, dSl, vSl, gSubL, dAug, vAug, isFN, vPar, dPar, vM, dM, isL, mApp, mPopAt, mPop, gIdx, vTIdx, isT, dTIdx, gIx, dFn, vFn, ress, gLen, gIsi5, isTy, kn, gAll, gAny, gInt, gAbs, gMax2, gMin2, gSum, gMax1, gMin1, gSorted, gList, gTuple, dR1, dR2, vR1, vR2, dLRg, dTRg, dLenSet, vLenSet, dSeqI, vSeqI, itemsOf, dRng1, dRng2, vRng1, vRng2, dEnum, dZip2, dZip3, vEnum, vZip2, vZip3, dLC, vLC, dCall, vCall, frzM, cSl, cSls, upR, cRes, atsOf, fnD, ownIn_G, ownG_nil, ownG_fz, ownG_no, ownG_own, wipeE, dStep, lcStep, dYes, vFin, vOut, outR, outE, dLend, vLend, lendE, backE, flatR, lend_fzo, back_fzo, lend_fz, lend_no, lend_own1, lend_own0, back_fz, back_no, back_own1, back_own0, flat_ints, flatO_ints, yPlain, yNil, vYSeq, ySeq, vYield, yYield, yFor, vGen, fzE, gnD, noE, vListG, dListG, gAddI, gMulI, dLit, dFmt, vFmt, dJs, dJoin, gStr, dCallB, vCallB, keepOwn, isOwn, res, frz, frzs, flat, O.bind_ok, O.bind_bad, O.bind_exn, List.nodup_cons, List.nodup_nil, List.not_mem_nil, List.mem_cons, List.mem_singleton, not_false_eq_true, and_true, true_and, List.contains_cons, List.contains_nil, Nat.zero_add, List.getElem?_nil, List.getElem?_cons_zero, List.getElem?_cons_succ, List.set_cons_zero, List.set_cons_succ, Option.map_some, Option.map_none, if_true, if_false, Bool.and_true, Bool.true_and, Bool.and_false, Bool.false_and, Bool.or_true, Bool.true_or, Bool.or_false, Bool.false_or, Bool.not_true, Bool.not_false, List.length_cons, List.length_nil, List.append_nil, List.cons_append, List.nil_append, List.replicate_succ, List.replicate_zero, decide_true, decide_false, ↓reduceIte, Int.cast_ofNat_Int, Int.reduceLE, Int.reduceLT, Int.reduceToNat, Int.reduceAdd, Int.reduceSub, Int.reduceMul, Int.reduceNeg, Int.reduceEq, Int.reduceNe, Int.reduceBEq, Int.reduceBNe, Int.reduceGT, Int.reduceGE, ne_eq, Nat.reduceAdd, Nat.reduceLeDiff, Nat.reduceEqDiff, Nat.reduceSub, Nat.reduceMul, Nat.reduceLT, Nat.reduceBEq, String.reduceEq, reduceCtorEq, beq_self_eq_true, List.map_cons, List.map_nil, List.reverse_nil, sortN]
  | bl b => simp only [dVar, vSlot, dC, dOp2, vOp2, dOpA, vOpA, vAn, An.r, dTst, DL.vBool, vTru, dTru, truth, dAnd, dOr, dNot, dAndV, dOrV, dNotV, dIfE, dNil, dCons, dTup, vTup, dLst, vLst, dSkip, vSeq, dSeq, dIf, dRet, dDrop, vSto, vSet, dSet, vAsg, dAsg, gN, DL.gNil, DL.gCons, gTupD, dFor, vTurn, dUn, gNeg, dMul, vMul, isNew, gAdd, DL.gSub, gII, tt2, cdiv, gFdiv, cmod, gMod, cpow, gPow, gLt, gLe, gGt, gGe, gEq_ii, gNe_ii, dIsN, DL.isNon, dCh, vCh, vCh2, dON, dOS, dSl, vSl, gSubL, dAug, vAug, isFN, vPar, dPar, vM, dM, isL, mApp, mPopAt, mPop, gIdx, vTIdx, isT, dTIdx, gIx, dFn, vFn, ress, gLen, gIsi5, isTy, kn, gAll, gAny, gInt, gAbs, gMax2, gMin2, gSum, gMax1, gMin1, gSorted, gList, gTuple, dR1, dR2, vR1, vR2, dLRg, dTRg, dLenSet, vLenSet, dSeqI, vSeqI, itemsOf, dRng1, dRng2, vRng1, vRng2, dEnum, dZip2, dZip3, vEnum, vZip2, vZip3, dLC, vLC, dCall, vCall, frzM, cSl, cSls, upR, cRes, atsOf, fnD, ownIn_G, ownG_nil, ownG_fz, ownG_no, ownG_own, wipeE, dStep, lcStep, dYes, vFin, vOut, outR, outE, dLend, vLend, lendE, backE, flatR, lend_fzo, back_fzo, lend_fz, lend_no, lend_own1, lend_own0, back_fz, back_no, back_own1, back_own0, flat_ints, flatO_ints, yPlain, yNil, vYSeq, ySeq, vYield, yYield, yFor, vGen, fzE, gnD, noE, vListG, dListG, gAddI, gMulI, dLit, dFmt, vFmt, dJs, dJoin, gStr, dCallB, vCallB, keepOwn, isOwn, res, frz, frzs, flat, O.bind_ok, O.bind_bad, O.bind_exn, List.nodup_cons, List.nodup_nil, List.not_mem_nil, List.mem_cons, List.mem_singleton, not_false_eq_true, and_true, true_and, List.contains_cons, List.contains_nil, Nat.zero_add, List.getElem?_nil, List.getElem?_cons_zero, List.getElem?_cons_succ, List.set_cons_zero, List.set_cons_succ, Option.map_some, Option.map_none, if_true, if_false, Bool.and_true, Bool.true_and, Bool.and_false, Bool.false_and, Bool.or_true, Bool.true_or, Bool.or_false, Bool.false_or, Bool.not_true, Bool.not_false, List.length_cons, List.length_nil, List.append_nil, List.cons_append, List.nil_append, List.replicate_succ, List.replicate_zero, decide_true, decide_false, ↓reduceIte, Int.cast_ofNat_Int, Int.reduceLE, Int.reduceLT, Int.reduceToNat, Int.reduceAdd, Int.reduceSub, Int.reduceMul, Int.reduceNeg, Int.reduceEq, Int.reduceNe, Int.reduceBEq, Int.reduceBNe, Int.reduceGT, Int.reduceGE, ne_eq, Nat.reduceAdd, Nat.reduceLeDiff, Nat.reduceEqDiff, Nat.reduceSub, Nat.reduceMul, Nat.reduceLT, Nat.reduceBEq, String.reduceEq, reduceCtorEq, beq_self_eq_true, List.map_cons, List.map_nil, List.reverse_nil, sortN]
  | int i => simp only [dVar, vSlot, dC, dOp2, vOp2, dOpA, vOpA, vAn, An.r, dTst, DL.vBool, vTru, dTru, truth, dAnd, dOr, dNot, dAndV, dOrV, dNotV, dIfE, dNil, dCons, dTup, vTup, dLst, vLst, dSkip, vSeq, dSeq, dIf, dRet, dDrop, vSto, vSet, dSet, vAsg, dAsg, gN, DL.gNil, DL.gCons, gTupD, dFor, vTurn, dUn, gNeg, dMul, vMul, isNew, gAdd, DL.gSub, gII, tt2, cdiv, gFdiv, cmod, gMod, cpow, gPow, gLt, gLe, gGt, gGe, gEq_ii, gNe_ii, dIsN, DL.isNon, dCh, vCh, vCh2, dON, dOS, dSl, vSl, gSubL, dAug, vAug, isFN, vPar, dPar, vM, dM, isL, mApp, mPopAt, mPop, gIdx, vTIdx, isT, dTIdx, gIx, dFn, vFn, ress, gLen, gIsi5, isTy, kn, gAll, gAny, gInt, gAbs, gMax2, gMin2, gSum, gMax1, gMin1, gSorted, gList, gTuple, dR1, dR2, vR1, vR2, dLRg, dTRg, dLenSet, vLenSet, dSeqI, vSeqI, itemsOf, dRng1, dRng2, vRng1, vRng2, dEnum, dZip2, dZip3, vEnum, vZip2, vZip3, dLC, vLC, dCall, vCall, frzM, cSl, cSls, upR, cRes, atsOf, fnD, ownIn_G, ownG_nil, ownG_fz, ownG_no, ownG_own, wipeE, dStep, lcStep, dYes, vFin, vOut, outR, outE, dLend, vLend, lendE, backE, flatR, lend_fzo, back_fzo, lend_fz, lend_no, lend_own1, lend_own0, back_fz, back_no, back_own1, back_own0, flat_ints, flatO_ints, yPlain, yNil, vYSeq, ySeq, vYield, yYield, yFor, vGen, fzE, gnD, noE, vListG, dListG, gAddI, gMulI, dLit, dFmt, vFmt, dJs, dJoin, gStr, dCallB, vCallB, keepOwn, isOwn, res, frz, frzs, flat, O.bind_ok, O.bind_bad, O.bind_exn, List.nodup_cons, List.nodup_nil, List.not_mem_nil, List.mem_cons, List.mem_singleton, not_false_eq_true, and_true, true_and, List.contains_cons, List.contains_nil, Nat.zero_add, List.getElem?_nil, List.getElem?_cons_zero, List.getElem?_cons_succ, List.set_cons_zero, List.set_cons_succ, Option.map_some, Option.map_none, if_true, if_false, Bool.and_true, Bool.true_and, Bool.and_false, Bool.false_and, Bool.or_true, Bool.true_or, Bool.or_false, Bool.false_or, Bool.not_true, Bool.not_false, List.length_cons, List.length_nil, List.append_nil, List.cons_append, List.nil_append, List.replicate_succ, List.replicate_zero, decide_true, decide_false, ↓reduceIte, Int.cast_ofNat_Int, Int.reduceLE, Int.reduceLT, Int.reduceToNat, Int.reduceAdd, Int.reduceSub, Int.reduceMul, Int.reduceNeg, Int.reduceEq, Int.reduceNe, Int.reduceBEq, Int.reduceBNe, Int.reduceGT, Int.reduceGE, ne_eq, Nat.reduceAdd, Nat.reduceLeDiff, Nat.reduceEqDiff, Nat.reduceSub, Nat.reduceMul, Nat.reduceLT, Nat.reduceBEq, String.reduceEq, reduceCtorEq, beq_self_eq_true, List.map_cons, List.map_nil, List.reverse_nil, sortN]
  | str x => simp only [dVar, vSlot, dC, dOp2, vOp2, dOpA, vOpA, vAn, An.r, dTst, DL.vBool, vTru, dTru, truth, dAnd, dOr, dNot, dAndV, dOrV, dNotV, dIfE, dNil, dCons, dTup, vTup, dLst, vLst, dSkip, vSeq, dSeq, dIf, dRet, dDrop, vSto, vSet, dSet, vAsg, dAsg, gN, DL.gNil, DL.gCons, gTupD, dFor, vTurn, dUn, gNeg, dMul, vMul, isNew, gAdd, DL.gSub, gII, tt2, cdiv, gFdiv, cmod, gMod, cpow, gPow, gLt, gLe, gGt, gGe, gEq_ii, gNe_ii, dIsN, DL.isNon, dCh, vCh, vCh2, dON, dOS, dSl, vSl, gSubL, dAug, vAug, isFN, vPar, dPar, vM, dM, isL, mApp, mPopAt, mPop, gIdx, vTIdx, isT, dTIdx, gIx, dFn, vFn, ress, gLen, gIsi5, isTy, kn, gAll, gAny, gInt, gAbs, gMax2, gMin2, gSum, gMax1, gMin1, gSorted, gList, gTuple, dR1, dR2, vR1, vR2, dLRg, dTRg, dLenSet, vLenSet, dSeqI, vSeqI, itemsOf, dRng1, dRng2, vRng1, vRng2, dEnum, dZip2, dZip3, vEnum, vZip2, vZip3, dLC, vLC, dCall, vCall, frzM, cSl, cSls, upR, cRes, atsOf, fnD, ownIn_G, ownG_nil, ownG_fz, ownG_no, ownG_own, wipeE, dStep, lcStep, dYes, vFin, vOut, outR, outE, dLend, vLend, lendE, backE, flatR, lend_fzo, back_fzo, lend_fz, lend_no, lend_own1, lend_own0, back_fz, back_no, back_own1, back_own0, flat_ints, flatO_ints, yPlain, yNil, vYSeq, ySeq, vYield, yYield, yFor, vGen, fzE, gnD, noE, vListG, dListG, gAddI, gMulI, dLit, dFmt, vFmt, dJs, dJoin, gStr, dCallB, vCallB, keepOwn, isOwn, res, frz, frzs, flat, O.bind_ok, O.bind_bad, O.bind_exn, List.nodup_cons, List.nodup_nil, List.not_mem_nil, List.mem_cons, List.mem_singleton, not_false_eq_true, and_true, true_and, List.contains_cons, List.contains_nil, Nat.zero_add, List.getElem?_nil, List.getElem?_cons_zero, List.getElem?_cons_succ, List.set_cons_zero, List.set_cons_succ, Option.map_some, Option.map_none, if_true, if_false, Bool.and_true, Bool.true_and, Bool.and_false, Bool.false_and, Bool.or_true, Bool.true_or, Bool.or_false, Bool.false_or, Bool.not_true, Bool.not_false, List.length_cons, List.length_nil, List.append_nil, List.cons_append, List.nil_append, List.replicate_succ, List.replicate_zero, decide_true, decide_false, ↓reduceIte, Int.cast_ofNat_Int, Int.reduceLE, Int.reduceLT, Int.reduceToNat, Int.reduceAdd, Int.reduceSub, Int.reduceMul, Int.reduceNeg, Int.reduceEq, Int.reduceNe, Int.reduceBEq, Int.reduceBNe, Int.reduceGT, Int.reduceGE, ne_eq, Nat.reduceAdd, Nat.reduceLeDiff, Nat.reduceEqDiff, Nat.reduceSub, Nat.reduceMul, Nat.reduceLT, Nat.reduceBEq, String.reduceEq, reduceCtorEq, beq_self_eq_true, List.map_cons, List.map_nil, List.reverse_nil, sortN]
  | tup ds => simp only [dVar, vSlot, dC, dOp2, vOp2, dOpA, vOpA, vAn, An.r, dTst, DL.vBool, vTru, dTru, truth, dAnd, dOr, dNot, dAndV, dOrV, dNotV, dIfE, dNil, dCons, dTup, vTup, dLst, vLst, dSkip, vSeq, dSeq, dIf, dRet, dDrop, vSto, vSet, dSet, vAsg, dAsg, gN, DL.gNil, DL.gCons, gTupD, dFor, vTurn, dUn, gNeg, dMul, vMul, isNew, gAdd, DL.gSub, gII, tt2, cdiv, gFdiv, cmod, gMod, cpow, gPow, gLt, gLe, gGt, gGe, gEq_ii, gNe_ii, dIsN, DL.isNon, dCh, vCh, vCh2, dON, dOS, dSl, vSl, gSubL, dAug, vAug, isFN, vPar, dPar, vM, dM, isL, mApp, mPopAt, mPop, gIdx, vTIdx, isT, dTIdx, gIx, dFn, vFn, ress, gLen, gIsi5, isTy, kn, gAll, gAny, gInt, gAbs, gMax2, gMin2, gSum, gMax1, gMin1, gSorted, gList, gTuple, dR1, dR2, vR1, vR2, dLRg, dTRg, dLenSet, vLenSet, dSeqI, vSeqI, itemsOf, dRng1, dRng2, vRng1, vRng2, dEnum, dZip2, dZip3, vEnum, vZip2, vZip3, dLC, vLC, dCall, vCall, frzM, cSl, cSls, upR, cRes, atsOf, fnD, ownIn_G, ownG_nil, ownG_fz, ownG_no, ownG_own, wipeE, dStep, lcStep, dYes, vFin, vOut, outR, outE, dLend, vLend, lendE, backE, flatR, lend_fzo, back_fzo, lend_fz, lend_no, lend_own1, lend_own0, back_fz, back_no, back_own1, back_own0, flat_ints, flatO_ints, yPlain, yNil, vYSeq, ySeq, vYield, yYield, yFor, vGen, fzE, gnD, noE, vListG, dListG, gAddI, gMulI, dLit, dFmt, vFmt, dJs, dJoin, gStr, dCallB, vCallB, keepOwn, isOwn, res, frz, frzs, flat, O.bind_ok, O.bind_bad, O.bind_exn, List.nodup_cons, List.nodup_nil, List.not_mem_nil, List.mem_cons, List.mem_singleton, not_false_eq_true, and_true, true_and, List.contains_cons, List.contains_nil, Nat.zero_add, List.getElem?_nil, List.getElem?_cons_zero, List.getElem?_cons_succ, List.set_cons_zero, List.set_cons_succ, Option.map_some, Option.map_none, if_true, if_false, Bool.and_true, Bool.true_and, Bool.and_false, Bool.false_and, Bool.or_true, Bool.true_or, Bool.or_false, Bool.false_or, Bool.not_true, Bool.not_false, List.length_cons, List.length_nil, List.append_nil, List.cons_append, List.nil_append, List.replicate_succ, List.replicate_zero, decide_true, decide_false, ↓reduceIte, Int.cast_ofNat_Int, Int.reduceLE, Int.reduceLT, Int.reduceToNat, Int.reduceAdd, Int.reduceSub, Int.reduceMul, Int.reduceNeg, Int.reduceEq, Int.reduceNe, Int.reduceBEq, Int.reduceBNe, Int.reduceGT, Int.reduceGE, ne_eq, Nat.reduceAdd, Nat.reduceLeDiff, Nat.reduceEqDiff, Nat.reduceSub, Nat.reduceMul, Nat.reduceLT, Nat.reduceBEq, String.reduceEq, reduceCtorEq, beq_self_eq_true, List.map_cons, List.map_nil, List.reverse_nil, sortN]
  | lst ds => simp only [dVar, vSlot, dC, dOp2, vOp2, dOpA, vOpA, vAn, An.r, dTst, DL.vBool, vTru, dTru, truth, dAnd, dOr, dNot, dAndV, dOrV, dNotV, dIfE, dNil, dCons, dTup, vTup, dLst, vLst, dSkip, vSeq, dSeq, dIf, dRet, dDrop, vSto, vSet, dSet, vAsg, dAsg, gN, DL.gNil, DL.gCons, gTupD, dFor, vTurn, dUn, gNeg, dMul, vMul, isNew, gAdd, DL.gSub, gII, tt2, cdiv, gFdiv, cmod, gMod, cpow, gPow, gLt, gLe, gGt, gGe, gEq_ii, gNe_ii, dIsN, DL.isNon, dCh, vCh, vCh2, dON, dOS, dSl, vSl, gSubL, dAug, vAug, isFN, vPar, dPar, vM, dM, isL, mApp, mPopAt, mPop, gIdx, vTIdx, isT, dTIdx, gIx, dFn, vFn, ress, gLen, gIsi5, isTy, kn, gAll, gAny, gInt, gAbs, gMax2, gMin2, gSum, gMax1, gMin1, gSorted, gList, gTuple, dR1, dR2, vR1, vR2, dLRg, dTRg, dLenSet, vLenSet, dSeqI, vSeqI, itemsOf, dRng1, dRng2, vRng1, vRng2, dEnum, dZip2, dZip3, vEnum, vZip2, vZip3, dLC, vLC, dCall, vCall, frzM, cSl, cSls, upR, cRes, atsOf, fnD, ownIn_G, ownG_nil, ownG_fz, ownG_no, ownG_own, wipeE, dStep, lcStep, dYes, vFin, vOut, outR, outE, dLend, vLend, lendE, backE, flatR, lend_fzo, back_fzo, lend_fz, lend_no, lend_own1, lend_own0, back_fz, back_no, back_own1, back_own0, flat_ints, flatO_ints, yPlain, yNil, vYSeq, ySeq, vYield, yYield, yFor, vGen, fzE, gnD, noE, vListG, dListG, gAddI, gMulI, dLit, dFmt, vFmt, dJs, dJoin, gStr, dCallB, vCallB, keepOwn, isOwn, res, frz, frzs, flat, O.bind_ok, O.bind_bad, O.bind_exn, List.nodup_cons, List.nodup_nil, List.not_mem_nil, List.mem_cons, List.mem_singleton, not_false_eq_true, and_true, true_and, List.contains_cons, List.contains_nil, Nat.zero_add, List.getElem?_nil, List.getElem?_cons_zero, List.getElem?_cons_succ, List.set_cons_zero, List.set_cons_succ, Option.map_some, Option.map_none, if_true, if_false, Bool.and_true, Bool.true_and, Bool.and_false, Bool.false_and, Bool.or_true, Bool.true_or, Bool.or_false, Bool.false_or, Bool.not_true, Bool.not_false, List.length_cons, List.length_nil, List.append_nil, List.cons_append, List.nil_append, List.replicate_succ, List.replicate_zero, decide_true, decide_false, ↓reduceIte, Int.cast_ofNat_Int, Int.reduceLE, Int.reduceLT, Int.reduceToNat, Int.reduceAdd, Int.reduceSub, Int.reduceMul, Int.reduceNeg, Int.reduceEq, Int.reduceNe, Int.reduceBEq, Int.reduceBNe, Int.reduceGT, Int.reduceGE, ne_eq, Nat.reduceAdd, Nat.reduceLeDiff, Nat.reduceEqDiff, Nat.reduceSub, Nat.reduceMul, Nat.reduceLT, Nat.reduceBEq, String.reduceEq, reduceCtorEq, beq_self_eq_true, List.map_cons, List.map_nil, List.reverse_nil, sortN]
  | _ => exact absurd h (by simp [kn])
theorem deq_refl_flat (d : D) (h : flat d = true) (hs : sok d = true) : deq d d = true := by
  cases d with
  | non => unfold deq; rfl
  | bl b => unfold deq; simp
  | int i => unfold deq; simp
  | str x => unfold deq; simp
  | fn n => unfold sok at hs; cases hs
  | ty n => unfold sok at hs; cases hs
  | _ => cases h
/-- data of at most so many layers -/
def nice : Nat → D → Bool
  | 0, d => flat d && sok d
  | k + 1, .lst ds => decide (ds.length ≤ 1000000) && ds.all (nice k)
  | k + 1, .tup ds => decide (ds.length ≤ 1000000) && ds.all (nice k)
  | _ + 1, d => flat d && sok d
theorem x_same_flat (k : Nat) (d : D) (h : (flat d && sok d) = true) : φ__law_same (k + 1) [.fz d, .fz d] = .ok (.fz (.bl true)) [.fz d, .fz d] := by
  rw [Bool.and_eq_true] at h
  have hq : gEq d d = some (.bl true) := by
    unfold gEq okq
    rw [h.2, deq_refl_flat d h.1 h.2]
    cases d with
    | lst ds => cases h.1
    | tup ds => cases h.1
    | _ => rfl
  show Φ__law_same (φ__law_same k) [.fz d, .fz d] = _
  unfold Φ__law_same
  cases d with
  | non => have xs := x_sort .non (by decide); simp only [dVar, vSlot, dC, dOp2, vOp2, dOpA, vOpA, vAn, An.r, dTst, DL.vBool, vTru, dTru, truth, dAnd, dOr, dNot, dAndV, dOrV, dNotV, dIfE, dNil, dCons, dTup, vTup, dLst, vLst, dSkip, vSeq, dSeq, dIf, dRet, dDrop, vSto, vSet, dSet, vAsg, dAsg, gN, DL.gNil, DL.gCons, gTupD, dFor, vTurn, dUn, gNeg, dMul, vMul, isNew, gAdd, DL.gSub, gII, tt2, cdiv, gFdiv, cmod, gMod, cpow, gPow, gLt, gLe, gGt, gGe, gEq_ii, gNe_ii, dIsN, DL.isNon, dCh, vCh, vCh2, dON, dOS, dSl, vSl, gSubL, dAug, vAug, isFN, vPar, dPar, vM, dM, isL, mApp, mPopAt, mPop, gIdx, vTIdx, isT, dTIdx, gIx, dFn, vFn, ress, gLen, gIsi5, isTy, kn, gAll, gAny, gInt, gAbs, gMax2, gMin2, gSum, gMax1, gMin1, gSorted, gList, gTuple, dR1, dR2, vR1, vR2, dLRg, dTRg, dLenSet, vLenSet, dSeqI, vSeqI, itemsOf, dRng1, dRng2, vRng1, vRng2, dEnum, dZip2, dZip3, vEnum, vZip2, vZip3, dLC, vLC, dCall, vCall, frzM, cSl, cSls, upR, cRes, atsOf, fnD, ownIn_G, ownG_nil, ownG_fz, ownG_no, ownG_own, wipeE, dStep, lcStep, dYes, vFin, vOut, outR, outE, dLend, vLend, lendE, backE, flatR, lend_fzo, back_fzo, lend_fz, lend_no, lend_own1, lend_own0, back_fz, back_no, back_own1, back_own0, flat_ints, flatO_ints, yPlain, yNil, vYSeq, ySeq, vYield, yYield, yFor, vGen, fzE, gnD, noE, vListG, dListG, gAddI, gMulI, dLit, dFmt, vFmt, dJs, dJoin, gStr, dCallB, vCallB, keepOwn, isOwn, res, frz, frzs, flat, O.bind_ok, O.bind_bad, O.bind_exn, List.nodup_cons, List.nodup_nil, List.not_mem_nil, List.mem_cons, List.mem_singleton, not_false_eq_true, and_true, true_and, List.contains_cons, List.contains_nil, Nat.zero_add, List.getElem?_nil, List.getElem?_cons_zero, List.getElem?_cons_succ, List.set_cons_zero, List.set_cons_succ, Option.map_some, Option.map_none, if_true, if_false, Bool.and_true, Bool.true_and, Bool.and_false, Bool.false_and, Bool.or_true, Bool.true_or, Bool.or_false, Bool.false_or, Bool.not_true, Bool.not_false, List.length_cons, List.length_nil, List.append_nil, List.cons_append, List.nil_append, List.replicate_succ, List.replicate_zero, decide_true, decide_false, ↓reduceIte, Int.cast_ofNat_Int, Int.reduceLE, Int.reduceLT, Int.reduceToNat, Int.reduceAdd, Int.reduceSub, Int.reduceMul, Int.reduceNeg, Int.reduceEq, Int.reduceNe, Int.reduceBEq, Int.reduceBNe, Int.reduceGT, Int.reduceGE, ne_eq, Nat.reduceAdd, Nat.reduceLeDiff, Nat.reduceEqDiff, Nat.reduceSub, Nat.reduceMul, Nat.reduceLT, Nat.reduceBEq, String.reduceEq, reduceCtorEq, beq_self_eq_true, List.map_cons, List.map_nil, List.reverse_nil, xs, sortN, hq]
  | bl b => have xs := x_sort (.bl b) (Nat.le_of_ble_eq_true rfl); simp only [dVar, vSlot, dC, dOp2, vOp2, dOpA, vOpA, vAn, An.r, dTst, DL.vBool, vTru, dTru, truth, dAnd, dOr, dNot, dAndV, dOrV, dNotV, dIfE, dNil, dCons, dTup, vTup, dLst, vLst, dSkip, vSeq, dSeq, dIf, dRet, dDrop, vSto, vSet, dSet, vAsg, dAsg, gN, DL.gNil, DL.gCons, gTupD, dFor, vTurn, dUn, gNeg, dMul, vMul, isNew, gAdd, DL.gSub, gII, tt2, cdiv, gFdiv, cmod, gMod, cpow, gPow, gLt, gLe, gGt, gGe, gEq_ii, gNe_ii, dIsN, DL.isNon, dCh, vCh, vCh2, dON, dOS, dSl, vSl, gSubL, dAug, vAug, isFN, vPar, dPar, vM, dM, isL, mApp, mPopAt, mPop, gIdx, vTIdx, isT, dTIdx, gIx, dFn, vFn, ress, gLen, gIsi5, isTy, kn, gAll, gAny, gInt, gAbs, gMax2, gMin2, gSum, gMax1, gMin1, gSorted, gList, gTuple, dR1, dR2, vR1, vR2, dLRg, dTRg, dLenSet, vLenSet, dSeqI, vSeqI, itemsOf, dRng1, dRng2, vRng1, vRng2, dEnum, dZip2, dZip3, vEnum, vZip2, vZip3, dLC, vLC, dCall, vCall, frzM, cSl, cSls, upR, cRes, atsOf, fnD, ownIn_G, ownG_nil, ownG_fz, ownG_no, ownG_own, wipeE, dStep, lcStep, dYes, vFin, vOut, outR, outE, dLend, vLend, lendE, backE, flatR, lend_fzo, back_fzo, lend_fz, lend_no, lend_own1, lend_own0, back_fz, back_no, back_own1, back_own0, flat_ints, flatO_ints, yPlain, yNil, vYSeq, ySeq, vYield, yYield, yFor, vGen, fzE, gnD, noE, vListG, dListG, gAddI, gMulI, dLit, dFmt, vFmt, dJs, dJoin, gStr, dCallB, vCallB, keepOwn, isOwn, res, frz, frzs, flat, O.bind_ok, O.bind_bad, O.bind_exn, List.nodup_cons, List.nodup_nil, List.not_mem_nil, List.mem_cons, List.mem_singleton, not_false_eq_true, and_true, true_and, List.contains_cons, List.contains_nil, Nat.zero_add, List.getElem?_nil, List.getElem?_cons_zero, List.getElem?_cons_succ, List.set_cons_zero, List.set_cons_succ, Option.map_some, Option.map_none, if_true, if_false, Bool.and_true, Bool.true_and, Bool.and_false, Bool.false_and, Bool.or_true, Bool.true_or, Bool.or_false, Bool.false_or, Bool.not_true, Bool.not_false, List.length_cons, List.length_nil, List.append_nil, List.cons_append, List.nil_append, List.replicate_succ, List.replicate_zero, decide_true, decide_false, ↓reduceIte, Int.cast_ofNat_Int, Int.reduceLE, Int.reduceLT, Int.reduceToNat, Int.reduceAdd, Int.reduceSub, Int.reduceMul, Int.reduceNeg, Int.reduceEq, Int.reduceNe, Int.reduceBEq, Int.reduceBNe, Int.reduceGT, Int.reduceGE, ne_eq, Nat.reduceAdd, Nat.reduceLeDiff, Nat.reduceEqDiff, Nat.reduceSub, Nat.reduceMul, Nat.reduceLT, Nat.reduceBEq, String.reduceEq, reduceCtorEq, beq_self_eq_true, List.map_cons, List.map_nil, List.reverse_nil, xs, sortN, hq]
  | int i => have xs := x_sort (.int i) (Nat.le_of_ble_eq_true rfl); simp only [dVar, vSlot, dC, dOp2, vOp2, dOpA, vOpA, vAn, An.r, dTst, DL.vBool, vTru, dTru, truth, dAnd, dOr, dNot, dAndV, dOrV, dNotV, dIfE, dNil, dCons, dTup, vTup, dLst, vLst, dSkip, vSeq, dSeq, dIf, dRet, dDrop, vSto, vSet, dSet, vAsg, dAsg, gN, DL.gNil, DL.gCons, gTupD, dFor, vTurn, dUn, gNeg, dMul, vMul, isNew, gAdd, DL.gSub, gII, tt2, cdiv, gFdiv, cmod, gMod, cpow, gPow, gLt, gLe, gGt, gGe, dIsN, DL.isNon, dCh, vCh, vCh2, dON, dOS, dSl, vSl, gSubL, dAug, vAug, isFN, vPar, dPar, vM, dM, isL, mApp, mPopAt, mPop, gIdx, vTIdx, isT, dTIdx, gIx, dFn, vFn, ress, gLen, gIsi5, isTy, kn, gAll, gAny, gInt, gAbs, gMax2, gMin2, gSum, gMax1, gMin1, gSorted, gList, gTuple, dR1, dR2, vR1, vR2, dLRg, dTRg, dLenSet, vLenSet, dSeqI, vSeqI, itemsOf, dRng1, dRng2, vRng1, vRng2, dEnum, dZip2, dZip3, vEnum, vZip2, vZip3, dLC, vLC, dCall, vCall, frzM, cSl, cSls, upR, cRes, atsOf, fnD, ownIn_G, ownG_nil, ownG_fz, ownG_no, ownG_own, wipeE, dStep, lcStep, dYes, vFin, vOut, outR, outE, dLend, vLend, lendE, backE, flatR, lend_fzo, back_fzo, lend_fz, lend_no, lend_own1, lend_own0, back_fz, back_no, back_own1, back_own0, flat_ints, flatO_ints, yPlain, yNil, vYSeq, ySeq, vYield, yYield, yFor, vGen, fzE, gnD, noE, vListG, dListG, gAddI, gMulI, dLit, dFmt, vFmt, dJs, dJoin, gStr, dCallB, vCallB, keepOwn, isOwn, res, frz, frzs, flat, O.bind_ok, O.bind_bad, O.bind_exn, List.nodup_cons, List.nodup_nil, List.not_mem_nil, List.mem_cons, List.mem_singleton, not_false_eq_true, and_true, true_and, List.contains_cons, List.contains_nil, Nat.zero_add, List.getElem?_nil, List.getElem?_cons_zero, List.getElem?_cons_succ, List.set_cons_zero, List.set_cons_succ, Option.map_some, Option.map_none, if_true, if_false, Bool.and_true, Bool.true_and, Bool.and_false, Bool.false_and, Bool.or_true, Bool.true_or, Bool.or_false, Bool.false_or, Bool.not_true, Bool.not_false, List.length_cons, List.length_nil, List.append_nil, List.cons_append, List.nil_append, List.replicate_succ, List.replicate_zero, decide_true, decide_false, ↓reduceIte, Int.cast_ofNat_Int, Int.reduceLE, Int.reduceLT, Int.reduceToNat, Int.reduceAdd, Int.reduceSub, Int.reduceMul, Int.reduceNeg, Int.reduceEq, Int.reduceNe, Int.reduceBEq, Int.reduceBNe, Int.reduceGT, Int.reduceGE, ne_eq, Nat.reduceAdd, Nat.reduceLeDiff, Nat.reduceEqDiff, Nat.reduceSub, Nat.reduceMul, Nat.reduceLT, Nat.reduceBEq, String.reduceEq, reduceCtorEq, beq_self_eq_true, List.map_cons, List.map_nil, List.reverse_nil, xs, sortN, hq, gNe_ii]
  | str x => have xs := x_sort (.str x) (Nat.le_of_ble_eq_true rfl); simp only [dVar, vSlot, dC, dOp2, vOp2, dOpA, vOpA, vAn, An.r, dTst, DL.vBool, vTru, dTru, truth, dAnd, dOr, dNot, dAndV, dOrV, dNotV, dIfE, dNil, dCons, dTup, vTup, dLst, vLst, dSkip, vSeq, dSeq, dIf, dRet, dDrop, vSto, vSet, dSet, vAsg, dAsg, gN, DL.gNil, DL.gCons, gTupD, dFor, vTurn, dUn, gNeg, dMul, vMul, isNew, gAdd, DL.gSub, gII, tt2, cdiv, gFdiv, cmod, gMod, cpow, gPow, gLt, gLe, gGt, gGe, gEq_ii, gNe_ii, dIsN, DL.isNon, dCh, vCh, vCh2, dON, dOS, dSl, vSl, gSubL, dAug, vAug, isFN, vPar, dPar, vM, dM, isL, mApp, mPopAt, mPop, gIdx, vTIdx, isT, dTIdx, gIx, dFn, vFn, ress, gLen, gIsi5, isTy, kn, gAll, gAny, gInt, gAbs, gMax2, gMin2, gSum, gMax1, gMin1, gSorted, gList, gTuple, dR1, dR2, vR1, vR2, dLRg, dTRg, dLenSet, vLenSet, dSeqI, vSeqI, itemsOf, dRng1, dRng2, vRng1, vRng2, dEnum, dZip2, dZip3, vEnum, vZip2, vZip3, dLC, vLC, dCall, vCall, frzM, cSl, cSls, upR, cRes, atsOf, fnD, ownIn_G, ownG_nil, ownG_fz, ownG_no, ownG_own, wipeE, dStep, lcStep, dYes, vFin, vOut, outR, outE, dLend, vLend, lendE, backE, flatR, lend_fzo, back_fzo, lend_fz, lend_no, lend_own1, lend_own0, back_fz, back_no, back_own1, back_own0, flat_ints, flatO_ints, yPlain, yNil, vYSeq, ySeq, vYield, yYield, yFor, vGen, fzE, gnD, noE, vListG, dListG, gAddI, gMulI, dLit, dFmt, vFmt, dJs, dJoin, gStr, dCallB, vCallB, keepOwn, isOwn, res, frz, frzs, flat, O.bind_ok, O.bind_bad, O.bind_exn, List.nodup_cons, List.nodup_nil, List.not_mem_nil, List.mem_cons, List.mem_singleton, not_false_eq_true, and_true, true_and, List.contains_cons, List.contains_nil, Nat.zero_add, List.getElem?_nil, List.getElem?_cons_zero, List.getElem?_cons_succ, List.set_cons_zero, List.set_cons_succ, Option.map_some, Option.map_none, if_true, if_false, Bool.and_true, Bool.true_and, Bool.and_false, Bool.false_and, Bool.or_true, Bool.true_or, Bool.or_false, Bool.false_or, Bool.not_true, Bool.not_false, List.length_cons, List.length_nil, List.append_nil, List.cons_append, List.nil_append, List.replicate_succ, List.replicate_zero, decide_true, decide_false, ↓reduceIte, Int.cast_ofNat_Int, Int.reduceLE, Int.reduceLT, Int.reduceToNat, Int.reduceAdd, Int.reduceSub, Int.reduceMul, Int.reduceNeg, Int.reduceEq, Int.reduceNe, Int.reduceBEq, Int.reduceBNe, Int.reduceGT, Int.reduceGE, ne_eq, Nat.reduceAdd, Nat.reduceLeDiff, Nat.reduceEqDiff, Nat.reduceSub, Nat.reduceMul, Nat.reduceLT, Nat.reduceBEq, String.reduceEq, reduceCtorEq, beq_self_eq_true, List.map_cons, List.map_nil, List.reverse_nil, xs, sortN, hq]
  | fn n => have := h.2; unfold sok at this; cases this
  | ty n => have := h.2; unfold sok at this; cases this
  | _ => cases h.1
theorem enumD_get {ds : List D} {i : Nat} {y : D} (h : (enumD ds)[i]? = some y) : ∃ hi : i < ds.length, y = .tup [.int (i : Nat), ds[i]] := by
  unfold enumD at h
  rw [List.getElem?_zipWith] at h
  by_cases hi : i < ds.length
  · refine ⟨hi, ?_⟩
    rw [List.getElem?_range hi, List.getElem?_eq_getElem hi] at h
    exact (Option.some.inj h).symm
  · rw [List.getElem?_eq_none (l := ds) (by omega)] at h
    split at h <;> simp_all
theorem enumD_length (ds : List D) : (enumD ds).length = ds.length := by
  unfold enumD
  rw [List.length_zipWith, List.length_range, Nat.min_self]
theorem L_same (k : Nat) (c : Bool) (ds : List D) (hl : ds.length ≤ 1000000) (ih : ∀ y ∈ ds, φ__law_same (k + 1) [.fz y, .fz y] = .ok (.fz (.bl true)) [.fz y, .fz y]) :
    lcLoop (gTupD 2 (gCons (gN 2) (gCons (gN 3) gNil))) (dNot (dTru (dCall (φ__law_same (k + 1)) [false, false] (dCons (dVar 3) (dCons (dOpA gIx (dVar 1) (dVar 2)) dNil))))) (dVar 2) [2, 3] (enumD ds) [.fz (if c = true then .lst ds else .tup ds), .fz (if c = true then .lst ds else .tup ds), .no, .no] [] = .ok [] [.fz (if c = true then .lst ds else .tup ds), .fz (if c = true then .lst ds else .tup ds), .no, .no] := by
  obtain ⟨acc, ε, e, h1, h2⟩ := lcLoop_from (gg := gTupD 2 (gCons (gN 2) (gCons (gN 3) gNil))) (ft := dNot (dTru (dCall (φ__law_same (k + 1)) [false, false] (dCons (dVar 3) (dCons (dOpA gIx (dVar 1) (dVar 2)) dNil))))) (fe := dVar 2) (vs := [2, 3]) (ds := enumD ds) (ε := [.fz (if c = true then .lst ds else .tup ds), .fz (if c = true then .lst ds else .tup ds), .no, .no]) (fun _ acc ε => acc = [] ∧ ε = [.fz (if c = true then .lst ds else .tup ds), .fz (if c = true then .lst ds else .tup ds), .no, .no]) ⟨rfl, rfl⟩ (fun i y ε acc hy ⟨h1, h2⟩ => by
    obtain ⟨hi, rfl⟩ := enumD_get hy
    subst h1 h2
    refine ⟨none, [.fz (if c = true then .lst ds else .tup ds), .fz (if c = true then .lst ds else .tup ds), .no, .no], ?_, rfl, rfl⟩
    have h0 := ih ds[i] (List.getElem_mem hi)
    have hat : atI ds (i : Int) = some ds[i] := by rw [at_nat ds i hi, List.getElem?_eq_getElem hi]
    cases c with
    | true => simp only [dVar, vSlot, dC, dOp2, vOp2, dOpA, vOpA, vAn, An.r, dTst, DL.vBool, vTru, dTru, truth, dAnd, dOr, dNot, dAndV, dOrV, dNotV, dIfE, dNil, dCons, dTup, vTup, dLst, vLst, dSkip, vSeq, dSeq, dIf, dRet, dDrop, vSto, vSet, dSet, vAsg, dAsg, gN, DL.gNil, DL.gCons, gTupD, dFor, vTurn, dUn, gNeg, dMul, vMul, isNew, gAdd, DL.gSub, gII, tt2, cdiv, gFdiv, cmod, gMod, cpow, gPow, gLt, gLe, gGt, gGe, gEq_ii, gNe_ii, dIsN, DL.isNon, dCh, vCh, vCh2, dON, dOS, dSl, vSl, gSubL, dAug, vAug, isFN, vPar, dPar, vM, dM, isL, mApp, mPopAt, mPop, gIdx, vTIdx, isT, dTIdx, gIx, dFn, vFn, ress, gLen, gIsi5, isTy, kn, gAll, gAny, gInt, gAbs, gMax2, gMin2, gSum, gMax1, gMin1, gSorted, gList, gTuple, dR1, dR2, vR1, vR2, dLRg, dTRg, dLenSet, vLenSet, dSeqI, vSeqI, itemsOf, dRng1, dRng2, vRng1, vRng2, dEnum, dZip2, dZip3, vEnum, vZip2, vZip3, dLC, vLC, dCall, vCall, frzM, cSl, cSls, upR, cRes, atsOf, fnD, ownIn_G, ownG_nil, ownG_fz, ownG_no, ownG_own, wipeE, dStep, lcStep, dYes, vFin, vOut, outR, outE, dLend, vLend, lendE, backE, flatR, lend_fzo, back_fzo, lend_fz, lend_no, lend_own1, lend_own0, back_fz, back_no, back_own1, back_own0, flat_ints, flatO_ints, yPlain, yNil, vYSeq, ySeq, vYield, yYield, yFor, vGen, fzE, gnD, noE, vListG, dListG, gAddI, gMulI, dLit, dFmt, vFmt, dJs, dJoin, gStr, dCallB, vCallB, keepOwn, isOwn, res, frz, frzs, flat, O.bind_ok, O.bind_bad, O.bind_exn, List.nodup_cons, List.nodup_nil, List.not_mem_nil, List.mem_cons, List.mem_singleton, not_false_eq_true, and_true, true_and, List.contains_cons, List.contains_nil, Nat.zero_add, List.getElem?_nil, List.getElem?_cons_zero, List.getElem?_cons_succ, List.set_cons_zero, List.set_cons_succ, Option.map_some, Option.map_none, if_true, if_false, Bool.and_true, Bool.true_and, Bool.and_false, Bool.false_and, Bool.or_true, Bool.true_or, Bool.or_false, Bool.false_or, Bool.not_true, Bool.not_false, List.length_cons, List.length_nil, List.append_nil, List.cons_append, List.nil_append, List.replicate_succ, List.replicate_zero, decide_true, decide_false, ↓reduceIte, Int.cast_ofNat_Int, Int.reduceLE, Int.reduceLT, Int.reduceToNat, Int.reduceAdd, Int.reduceSub, Int.reduceMul, Int.reduceNeg, Int.reduceEq, Int.reduceNe, Int.reduceBEq, Int.reduceBNe, Int.reduceGT, Int.reduceGE, ne_eq, Nat.reduceAdd, Nat.reduceLeDiff, Nat.reduceEqDiff, Nat.reduceSub, Nat.reduceMul, Nat.reduceLT, Nat.reduceBEq, String.reduceEq, reduceCtorEq, beq_self_eq_true, List.map_cons, List.map_nil, List.reverse_nil, h0, hat]
    | false => simp only [dVar, vSlot, dC, dOp2, vOp2, dOpA, vOpA, vAn, An.r, dTst, DL.vBool, vTru, dTru, truth, dAnd, dOr, dNot, dAndV, dOrV, dNotV, dIfE, dNil, dCons, dTup, vTup, dLst, vLst, dSkip, vSeq, dSeq, dIf, dRet, dDrop, vSto, vSet, dSet, vAsg, dAsg, gN, DL.gNil, DL.gCons, gTupD, dFor, vTurn, dUn, gNeg, dMul, vMul, isNew, gAdd, DL.gSub, gII, tt2, cdiv, gFdiv, cmod, gMod, cpow, gPow, gLt, gLe, gGt, gGe, gEq_ii, gNe_ii, dIsN, DL.isNon, dCh, vCh, vCh2, dON, dOS, dSl, vSl, gSubL, dAug, vAug, isFN, vPar, dPar, vM, dM, isL, mApp, mPopAt, mPop, gIdx, vTIdx, isT, dTIdx, gIx, dFn, vFn, ress, gLen, gIsi5, isTy, kn, gAll, gAny, gInt, gAbs, gMax2, gMin2, gSum, gMax1, gMin1, gSorted, gList, gTuple, dR1, dR2, vR1, vR2, dLRg, dTRg, dLenSet, vLenSet, dSeqI, vSeqI, itemsOf, dRng1, dRng2, vRng1, vRng2, dEnum, dZip2, dZip3, vEnum, vZip2, vZip3, dLC, vLC, dCall, vCall, frzM, cSl, cSls, upR, cRes, atsOf, fnD, ownIn_G, ownG_nil, ownG_fz, ownG_no, ownG_own, wipeE, dStep, lcStep, dYes, vFin, vOut, outR, outE, dLend, vLend, lendE, backE, flatR, lend_fzo, back_fzo, lend_fz, lend_no, lend_own1, lend_own0, back_fz, back_no, back_own1, back_own0, flat_ints, flatO_ints, yPlain, yNil, vYSeq, ySeq, vYield, yYield, yFor, vGen, fzE, gnD, noE, vListG, dListG, gAddI, gMulI, dLit, dFmt, vFmt, dJs, dJoin, gStr, dCallB, vCallB, keepOwn, isOwn, res, frz, frzs, flat, O.bind_ok, O.bind_bad, O.bind_exn, List.nodup_cons, List.nodup_nil, List.not_mem_nil, List.mem_cons, List.mem_singleton, not_false_eq_true, and_true, true_and, List.contains_cons, List.contains_nil, Nat.zero_add, List.getElem?_nil, List.getElem?_cons_zero, List.getElem?_cons_succ, List.set_cons_zero, List.set_cons_succ, Option.map_some, Option.map_none, if_true, if_false, Bool.and_true, Bool.true_and, Bool.and_false, Bool.false_and, Bool.or_true, Bool.true_or, Bool.or_false, Bool.false_or, Bool.not_true, Bool.not_false, List.length_cons, List.length_nil, List.append_nil, List.cons_append, List.nil_append, List.replicate_succ, List.replicate_zero, decide_true, decide_false, ↓reduceIte, Int.cast_ofNat_Int, Int.reduceLE, Int.reduceLT, Int.reduceToNat, Int.reduceAdd, Int.reduceSub, Int.reduceMul, Int.reduceNeg, Int.reduceEq, Int.reduceNe, Int.reduceBEq, Int.reduceBNe, Int.reduceGT, Int.reduceGE, ne_eq, Nat.reduceAdd, Nat.reduceLeDiff, Nat.reduceEqDiff, Nat.reduceSub, Nat.reduceMul, Nat.reduceLT, Nat.reduceBEq, String.reduceEq, reduceCtorEq, beq_self_eq_true, List.map_cons, List.map_nil, List.reverse_nil, h0, hat])
  rw [e, h1, h2]
theorem gEq_nil : gEq (.lst []) (.lst []) = some (.bl true) := by
  have := gEq_ll [] []
  simpa using this
theorem x_same_nice : ∀ (k : Nat) (d : D), nice k d = true → φ__law_same (k + 1) [.fz d, .fz d] = .ok (.fz (.bl true)) [.fz d, .fz d]
  | 0, d, h => x_same_flat 0 d h
  | k + 1, d, h => by
    have key : ∀ (c : Bool) (ds : List D), ds.length ≤ 1000000 → (∀ y ∈ ds, nice k y = true) → φ__law_same (k + 1 + 1) [.fz (if c = true then .lst ds else .tup ds), .fz (if c = true then .lst ds else .tup ds)] = .ok (.fz (.bl true)) [.fz (if c = true then .lst ds else .tup ds), .fz (if c = true then .lst ds else .tup ds)] := fun c ds hl ha => by
      have L := L_same k c ds hl fun y hy => x_same_nice k y (ha y hy)
      show Φ__law_same (φ__law_same (k + 1)) _ = _
      unfold Φ__law_same
      cases c with
      | true =>
        rw [if_pos rfl] at L ⊢
        have xs := x_sort (.lst ds) (Nat.le_of_ble_eq_true rfl)
        simp only [dVar, vSlot, dC, dOp2, vOp2, dOpA, vOpA, vAn, An.r, dTst, DL.vBool, vTru, dTru, truth, dAnd, dOr, dNot, dAndV, dOrV, dNotV, dIfE, dNil, dCons, dTup, vTup, dLst, vLst, dSkip, vSeq, dSeq, dIf, dRet, dDrop, vSto, vSet, dSet, vAsg, dAsg, gN, DL.gNil, DL.gCons, gTupD, dFor, vTurn, dUn, gNeg, dMul, vMul, isNew, gAdd, DL.gSub, gII, tt2, cdiv, gFdiv, cmod, gMod, cpow, gPow, gLt, gLe, gGt, gGe, gEq_ii, gNe_ii, dIsN, DL.isNon, dCh, vCh, vCh2, dON, dOS, dSl, vSl, gSubL, dAug, vAug, isFN, vPar, dPar, vM, dM, isL, mApp, mPopAt, mPop, gIdx, vTIdx, isT, dTIdx, gIx, dFn, vFn, ress, gLen, gIsi5, isTy, kn, gAll, gAny, gInt, gAbs, gMax2, gMin2, gSum, gMax1, gMin1, gSorted, gList, gTuple, dR1, dR2, vR1, vR2, dLRg, dTRg, dLenSet, vLenSet, dSeqI, vSeqI, itemsOf, dRng1, dRng2, vRng1, vRng2, dEnum, dZip2, dZip3, vEnum, vZip2, vZip3, dLC, vLC, dCall, vCall, frzM, cSl, cSls, upR, cRes, atsOf, fnD, ownIn_G, ownG_nil, ownG_fz, ownG_no, ownG_own, wipeE, dStep, lcStep, dYes, vFin, vOut, outR, outE, dLend, vLend, lendE, backE, flatR, lend_fzo, back_fzo, lend_fz, lend_no, lend_own1, lend_own0, back_fz, back_no, back_own1, back_own0, flat_ints, flatO_ints, yPlain, yNil, vYSeq, ySeq, vYield, yYield, yFor, vGen, fzE, gnD, noE, vListG, dListG, gAddI, gMulI, dLit, dFmt, vFmt, dJs, dJoin, gStr, dCallB, vCallB, keepOwn, isOwn, res, frz, frzs, flat, O.bind_ok, O.bind_bad, O.bind_exn, List.nodup_cons, List.nodup_nil, List.not_mem_nil, List.mem_cons, List.mem_singleton, not_false_eq_true, and_true, true_and, List.contains_cons, List.contains_nil, Nat.zero_add, List.getElem?_nil, List.getElem?_cons_zero, List.getElem?_cons_succ, List.set_cons_zero, List.set_cons_succ, Option.map_some, Option.map_none, if_true, if_false, Bool.and_true, Bool.true_and, Bool.and_false, Bool.false_and, Bool.or_true, Bool.true_or, Bool.or_false, Bool.false_or, Bool.not_true, Bool.not_false, List.length_cons, List.length_nil, List.append_nil, List.cons_append, List.nil_append, List.replicate_succ, List.replicate_zero, decide_true, decide_false, ↓reduceIte, Int.cast_ofNat_Int, Int.reduceLE, Int.reduceLT, Int.reduceToNat, Int.reduceAdd, Int.reduceSub, Int.reduceMul, Int.reduceNeg, Int.reduceEq, Int.reduceNe, Int.reduceBEq, Int.reduceBNe, Int.reduceGT, Int.reduceGE, ne_eq, Nat.reduceAdd, Nat.reduceLeDiff, Nat.reduceEqDiff, Nat.reduceSub, Nat.reduceMul, Nat.reduceLT, Nat.reduceBEq, String.reduceEq, reduceCtorEq, beq_self_eq_true, List.map_cons, List.map_nil, List.reverse_nil, xs, sortN, hl, L, gEq_nil, enumD_length]
      | false =>
        rw [if_neg (by decide)] at L ⊢
        have xs := x_sort (.tup ds) (Nat.le_of_ble_eq_true rfl)
        simp only [dVar, vSlot, dC, dOp2, vOp2, dOpA, vOpA, vAn, An.r, dTst, DL.vBool, vTru, dTru, truth, dAnd, dOr, dNot, dAndV, dOrV, dNotV, dIfE, dNil, dCons, dTup, vTup, dLst, vLst, dSkip, vSeq, dSeq, dIf, dRet, dDrop, vSto, vSet, dSet, vAsg, dAsg, gN, DL.gNil, DL.gCons, gTupD, dFor, vTurn, dUn, gNeg, dMul, vMul, isNew, gAdd, DL.gSub, gII, tt2, cdiv, gFdiv, cmod, gMod, cpow, gPow, gLt, gLe, gGt, gGe, gEq_ii, gNe_ii, dIsN, DL.isNon, dCh, vCh, vCh2, dON, dOS, dSl, vSl, gSubL, dAug, vAug, isFN, vPar, dPar, vM, dM, isL, mApp, mPopAt, mPop, gIdx, vTIdx, isT, dTIdx, gIx, dFn, vFn, ress, gLen, gIsi5, isTy, kn, gAll, gAny, gInt, gAbs, gMax2, gMin2, gSum, gMax1, gMin1, gSorted, gList, gTuple, dR1, dR2, vR1, vR2, dLRg, dTRg, dLenSet, vLenSet, dSeqI, vSeqI, itemsOf, dRng1, dRng2, vRng1, vRng2, dEnum, dZip2, dZip3, vEnum, vZip2, vZip3, dLC, vLC, dCall, vCall, frzM, cSl, cSls, upR, cRes, atsOf, fnD, ownIn_G, ownG_nil, ownG_fz, ownG_no, ownG_own, wipeE, dStep, lcStep, dYes, vFin, vOut, outR, outE, dLend, vLend, lendE, backE, flatR, lend_fzo, back_fzo, lend_fz, lend_no, lend_own1, lend_own0, back_fz, back_no, back_own1, back_own0, flat_ints, flatO_ints, yPlain, yNil, vYSeq, ySeq, vYield, yYield, yFor, vGen, fzE, gnD, noE, vListG, dListG, gAddI, gMulI, dLit, dFmt, vFmt, dJs, dJoin, gStr, dCallB, vCallB, keepOwn, isOwn, res, frz, frzs, flat, O.bind_ok, O.bind_bad, O.bind_exn, List.nodup_cons, List.nodup_nil, List.not_mem_nil, List.mem_cons, List.mem_singleton, not_false_eq_true, and_true, true_and, List.contains_cons, List.contains_nil, Nat.zero_add, List.getElem?_nil, List.getElem?_cons_zero, List.getElem?_cons_succ, List.set_cons_zero, List.set_cons_succ, Option.map_some, Option.map_none, if_true, if_false, Bool.and_true, Bool.true_and, Bool.and_false, Bool.false_and, Bool.or_true, Bool.true_or, Bool.or_false, Bool.false_or, Bool.not_true, Bool.not_false, List.length_cons, List.length_nil, List.append_nil, List.cons_append, List.nil_append, List.replicate_succ, List.replicate_zero, decide_true, decide_false, ↓reduceIte, Int.cast_ofNat_Int, Int.reduceLE, Int.reduceLT, Int.reduceToNat, Int.reduceAdd, Int.reduceSub, Int.reduceMul, Int.reduceNeg, Int.reduceEq, Int.reduceNe, Int.reduceBEq, Int.reduceBNe, Int.reduceGT, Int.reduceGE, ne_eq, Nat.reduceAdd, Nat.reduceLeDiff, Nat.reduceEqDiff, Nat.reduceSub, Nat.reduceMul, Nat.reduceLT, Nat.reduceBEq, String.reduceEq, reduceCtorEq, beq_self_eq_true, List.map_cons, List.map_nil, List.reverse_nil, xs, sortN, hl, L, gEq_nil, enumD_length]
    cases d with
    | lst ds =>
      unfold nice at h
      rw [Bool.and_eq_true, decide_eq_true_eq, List.all_eq_true] at h
      exact key true ds h.1 h.2
    | tup ds =>
      unfold nice at h
      rw [Bool.and_eq_true, decide_eq_true_eq, List.all_eq_true] at h
      exact key false ds h.1 h.2
    | non => exact x_same_flat (k + 1) .non h
    | bl b => exact x_same_flat (k + 1) (.bl b) h
    | int i => exact x_same_flat (k + 1) (.int i) h
    | str z => exact x_same_flat (k + 1) (.str z) h
    | fn n => exact x_same_flat (k + 1) (.fn n) h
    | ty n => exact x_same_flat (k + 1) (.ty n) h
    | _ => cases h
theorem nice_int (k : Nat) (i : Int) : nice k (.int i) = true := by
  cases k <;> (unfold nice flat sok; rfl)
theorem nice_lI (k : Nat) (l : List Int) (h : l.length ≤ 1000000) : nice (k + 1) (.lst (l.map .int)) = true := by
  unfold nice
  rw [Bool.and_eq_true, decide_eq_true_eq, List.length_map, List.all_eq_true]
  refine ⟨h, fun y hy => ?_⟩
  obtain ⟨i, _, rfl⟩ := List.mem_map.mp hy
  exact nice_int k i
/-- a dict with ints as keys, as a list of pairs -/
def aget {α : Type} : List (Int × α) → Int → Option α
  | [], _ => none
  | e :: r, k => if e.1 = k then some e.2 else aget r k
def amem {α : Type} (l : List (Int × α)) (k : Int) : Bool := l.any fun e => decide (e.1 = k)
def aput {α : Type} (l : List (Int × α)) (k : Int) (v : α) : List (Int × α) := if amem l k = true then l.map (fun e => if e.1 = k then (e.1, v) else e) else l ++ [(k, v)]
theorem aget_put1 {α : Type} (k : Int) (v : α) (j : Int) : ∀ l : List (Int × α), aget (l.map fun e => if e.1 = k then (e.1, v) else e) j = if j = k then (if amem l k = true then some v else none) else aget l j
  | [] => by simp [aget, amem]
  | e :: r => by
    have ih := aget_put1 k v j r
    have e1 : amem (e :: r) k = (decide (e.1 = k) || amem r k) := List.any_cons
    rw [List.map_cons, e1]
    show (if (if e.1 = k then (e.1, v) else e).1 = j then some (if e.1 = k then (e.1, v) else e).2 else aget (r.map fun e => if e.1 = k then (e.1, v) else e) j) = if j = k then _ else (if e.1 = j then some e.2 else aget r j)
    rw [ih]
    by_cases h1 : e.1 = k
    · rw [if_pos h1]
      by_cases h2 : j = k
      · simp [h1, h2]
      · have h3 : ¬ e.1 = j := fun z => h2 (by omega)
        simp [h3, h2]
    · rw [if_neg h1]
      by_cases h2 : j = k
      · have h3 : ¬ e.1 = j := fun z => h1 (by omega)
        simp [h3, h2, h1]
      · by_cases h3 : e.1 = j
        · simp [h3, h2]
        · simp [h3, h2]
theorem aget_append {α : Type} (m : List (Int × α)) (j : Int) : ∀ l : List (Int × α), aget (l ++ m) j = match aget l j with
    | some v => some v
    | none => aget m j
  | [] => by simp [aget]
  | e :: r => by
    rw [List.cons_append]
    show (if e.1 = j then some e.2 else aget (r ++ m) j) = match (if e.1 = j then some e.2 else aget r j) with
      | some v => some v
      | none => aget m j
    by_cases h : e.1 = j
    · simp [h]
    · simp only [h, if_false]
      exact aget_append m j r
theorem amem_aget {α : Type} (k : Int) : ∀ l : List (Int × α), amem l k = (aget l k).isSome
  | [] => rfl
  | e :: r => by
    show (decide (e.1 = k) || amem r k) = (if e.1 = k then some e.2 else aget r k).isSome
    rw [amem_aget k r]
    by_cases h : e.1 = k <;> simp [h]
theorem aget_aput {α : Type} (l : List (Int × α)) (k : Int) (v : α) (j : Int) : aget (aput l k v) j = if j = k then some v else aget l j := by
  unfold aput
  by_cases h : amem l k = true
  · rw [if_pos h, aget_put1, if_pos h]
  · rw [if_neg h, aget_append]
    have h2 : aget l k = none := by
      rw [amem_aget] at h
      cases e : aget l k with
      | none => rfl
      | some v => rw [e] at h; simp at h
    by_cases hj : j = k
    · rw [hj, h2]; simp [aget]
    · have h3 : ¬ k = j := fun z => hj z.symm
      cases e : aget l j <;> simp [aget, hj, h3]
theorem aget_key {α : Type} {k : Int} : ∀ {l : List (Int × α)}, k ∈ l.map (·.1) → ∃ v, aget l k = some v
  | [], h => by simp at h
  | e :: r, h => by
    show ∃ v, (if e.1 = k then some e.2 else aget r k) = some v
    by_cases c : e.1 = k
    · exact ⟨e.2, by rw [if_pos c]⟩
    · rw [if_neg c]
      rw [List.map_cons] at h
      rcases List.mem_cons.mp h with z | z
      · exact absurd z.symm c
      · exact aget_key z
theorem aput_keys {α : Type} (l : List (Int × α)) (k : Int) (v : α) : (aput l k v).map (·.1) = if amem l k = true then l.map (·.1) else l.map (·.1) ++ [k] := by
  unfold aput
  split
  · rw [List.map_map]
    refine List.map_congr_left fun e _ => ?_
    show (if e.1 = k then (e.1, v) else e).1 = e.1
    split <;> rfl
  · rw [List.map_append]; rfl
theorem aput_nodup {α : Type} {l : List (Int × α)} {k : Int} {v : α} (h : (l.map (·.1)).Nodup) : ((aput l k v).map (·.1)).Nodup := by
  rw [aput_keys]
  split
  · exact h
  · rename_i hk
    refine List.nodup_append.mpr ⟨h, by simp, fun a ha b hb e => hk ?_⟩
    rw [List.mem_singleton] at hb
    rw [amem_aget]
    obtain ⟨v', e'⟩ := aget_key ha
    rw [← hb, ← e, e']; rfl
def Sel : List (Int × Int) → List (List (Int × Int)) → Prop
  | [], [] => True
  | o :: s, os :: h => o ∈ os ∧ Sel s h
  | _, _ => False
theorem Sel.length : ∀ {s : List (Int × Int)} {h : List (List (Int × Int))}, Sel s h → s.length = h.length
  | [], [], _ => rfl
  | o :: s, os :: h, z => by rw [List.length_cons, List.length_cons, Sel.length z.2]
  | [], _ :: _, z => z.elim
  | _ :: _, [], z => z.elim
def ctStep (lt : Int × List Int → Int × List Int → Bool) (later : List (Int × Int × List Int)) (rise : Int) (r : Int × List Int) (o : Int × Int) : List (Int × Int × List Int) :=
  match aget later (rise + o.2) with
  | none => aput later (rise + o.2) (r.1 + o.1, r.2 ++ [o.1])
  | some q => if lt (r.1 + o.1, r.2 ++ [o.1]) q = true then aput later (rise + o.2) (r.1 + o.1, r.2 ++ [o.1]) else later
/-- what is known of the later table when some pairs are done -/
structure CL (tb : List (Int × Int × List Int)) (os : List (Int × Int)) (done : Int → Int × Int → Prop) (later : List (Int × Int × List Int)) : Prop where
  nd : (later.map (·.1)).Nodup
  from_ : ∀ k s p, aget later k = some (s, p) → ∃ rise r o, aget tb rise = some r ∧ o ∈ os ∧ k = rise + o.2 ∧ s = r.1 + o.1 ∧ p = r.2 ++ [o.1]
  to_ : ∀ rise o r, done rise o → aget tb rise = some r → ∃ s p, aget later (rise + o.2) = some (s, p) ∧ s ≤ r.1 + o.1
theorem CL.step {lt : Int × List Int → Int × List Int → Bool} (h1 : ∀ a b, lt a b = true → a.1 ≤ b.1) (h2 : ∀ a b, lt a b = false → b.1 ≤ a.1) {tb : List (Int × Int × List Int)} {os : List (Int × Int)} {done : Int → Int × Int → Prop} {later : List (Int × Int × List Int)}
    (L : CL tb os done later) {rise : Int} {r : Int × List Int} {o : Int × Int} (hr : aget tb rise = some r) (ho : o ∈ os) : CL tb os (fun r' o' => done r' o' ∨ (r' = rise ∧ o' = o)) (ctStep lt later rise r o) := by
  have putS : ∀ (hle : ∀ q, aget later (rise + o.2) = some q → r.1 + o.1 ≤ q.1), CL tb os (fun r' o' => done r' o' ∨ (r' = rise ∧ o' = o)) (aput later (rise + o.2) (r.1 + o.1, r.2 ++ [o.1])) := fun hle => by
    refine ⟨aput_nodup L.nd, fun k s p e => ?_, fun r' o' q d e => ?_⟩
    · rw [aget_aput] at e
      by_cases c : k = rise + o.2
      · rw [if_pos c] at e
        cases e
        exact ⟨rise, r, o, hr, ho, c, rfl, rfl⟩
      · rw [if_neg c] at e; exact L.from_ k s p e
    · rw [aget_aput]
      by_cases c : r' + o'.2 = rise + o.2
      · rw [if_pos c]
        refine ⟨_, _, rfl, ?_⟩
        rcases d with d | ⟨rfl, rfl⟩
        · obtain ⟨s, p, e1, hs⟩ := L.to_ r' o' q d e
          rw [c] at e1
          have := hle _ e1
          exact Int.le_trans this hs
        · rw [hr] at e; cases e; exact Int.le_refl _
      · rw [if_neg c]
        rcases d with d | ⟨rfl, rfl⟩
        · exact L.to_ r' o' q d e
        · exact absurd rfl c
  cases e : aget later (rise + o.2) with
  | none =>
    rw [show ctStep lt later rise r o = aput later (rise + o.2) (r.1 + o.1, r.2 ++ [o.1]) by unfold ctStep; rw [e]]
    exact putS fun q eq => by rw [e] at eq; cases eq
  | some q =>
    cases e2 : lt (r.1 + o.1, r.2 ++ [o.1]) q with
    | true =>
      rw [show ctStep lt later rise r o = aput later (rise + o.2) (r.1 + o.1, r.2 ++ [o.1]) by unfold ctStep; rw [e]; simp only [e2, if_true]]
      exact putS fun q' eq => by rw [e] at eq; cases eq; exact h1 _ _ e2
    | false =>
      rw [show ctStep lt later rise r o = later by unfold ctStep; rw [e]; simp [e2]]
      refine ⟨L.nd, L.from_, fun r' o' q' d e' => ?_⟩
      rcases d with d | ⟨rfl, rfl⟩
      · exact L.to_ r' o' q' d e'
      · rw [hr] at e'; cases e'
        exact ⟨q.1, q.2, e, h2 _ _ e2⟩
def ctRow (lt : Int × List Int → Int × List Int → Bool) (rise : Int) (r : Int × List Int) (os : List (Int × Int)) (later : List (Int × Int × List Int)) : List (Int × Int × List Int) := os.foldl (fun l o => ctStep lt l rise r o) later
theorem CL.mono {tb : List (Int × Int × List Int)} {os : List (Int × Int)} {d d' : Int → Int × Int → Prop} {later : List (Int × Int × List Int)} (L : CL tb os d later) (h : ∀ r o, d' r o → d r o) : CL tb os d' later := ⟨L.nd, L.from_, fun r o q z e => L.to_ r o q (h r o z) e⟩
theorem CL.row {lt : Int × List Int → Int × List Int → Bool} (h1 : ∀ a b, lt a b = true → a.1 ≤ b.1) (h2 : ∀ a b, lt a b = false → b.1 ≤ a.1) {tb : List (Int × Int × List Int)} {os : List (Int × Int)} {rise : Int} {r : Int × List Int} (hr : aget tb rise = some r) :
    ∀ (l : List (Int × Int)) {done : Int → Int × Int → Prop} {later : List (Int × Int × List Int)}, (∀ o ∈ l, o ∈ os) → CL tb os done later → CL tb os (fun r' o' => done r' o' ∨ (r' = rise ∧ o' ∈ l)) (ctRow lt rise r l later)
  | [], done, later, _, L => L.mono fun r' o' z => by
    rcases z with z | ⟨_, z⟩
    · exact z
    · simp at z
  | o :: l, done, later, h, L => by
    have := CL.row h1 h2 hr l (fun o ho => h o (List.mem_cons_of_mem _ ho)) (L.step h1 h2 hr (h o List.mem_cons_self))
    refine this.mono fun r' o' z => ?_
    rcases z with z | ⟨z1, z2⟩
    · exact .inl (.inl z)
    · rcases List.mem_cons.mp z2 with z2 | z2
      · exact .inl (.inr ⟨z1, z2⟩)
      · exact .inr ⟨z1, z2⟩
def ctAll (lt : Int × List Int → Int × List Int → Bool) (tb : List (Int × Int × List Int)) (os : List (Int × Int)) (rs : List Int) (later : List (Int × Int × List Int)) : List (Int × Int × List Int) :=
  rs.foldl (fun l rise => match aget tb rise with
    | some r => ctRow lt rise r os l
    | none => l) later
theorem CL.all {lt : Int × List Int → Int × List Int → Bool} (h1 : ∀ a b, lt a b = true → a.1 ≤ b.1) (h2 : ∀ a b, lt a b = false → b.1 ≤ a.1) {tb : List (Int × Int × List Int)} {os : List (Int × Int)} :
    ∀ (rs : List Int) {done : Int → Int × Int → Prop} {later : List (Int × Int × List Int)}, (∀ k ∈ rs, k ∈ tb.map (·.1)) → CL tb os done later → CL tb os (fun r' o' => done r' o' ∨ (r' ∈ rs ∧ o' ∈ os)) (ctAll lt tb os rs later)
  | [], done, later, _, L => L.mono fun r' o' z => by
    rcases z with z | ⟨z, _⟩
    · exact z
    · simp at z
  | k :: rs, done, later, h, L => by
    obtain ⟨r, hr⟩ := aget_key (h k List.mem_cons_self)
    have e0 : ctAll lt tb os (k :: rs) later = ctAll lt tb os rs (ctRow lt k r os later) := by
      show rs.foldl _ (match aget tb k with
        | some r => ctRow lt k r os later
        | none => later) = _
      rw [hr]; rfl
    rw [e0]
    refine (CL.all h1 h2 rs (fun k hk => h k (List.mem_cons_of_mem _ hk)) (L.row h1 h2 hr os fun _ h => h)).mono fun r' o' z => ?_
    rcases z with z | ⟨z1, z2⟩
    · exact .inl (.inl z)
    · rcases List.mem_cons.mp z1 with z1 | z1
      · exact .inl (.inr ⟨z1, z2⟩)
      · exact .inr ⟨z1, z2⟩
theorem rng0 (p : Nat) : rangeD 0 p = (List.range p).map fun i => D.int (i : Nat) := by
  unfold rangeD
  exact List.map_congr_left fun i _ => by rw [Int.zero_add]
theorem rg8 : ∀ p : Nat, p < 9 → smallI (p : Int) = true := by decide
structure VG (n p : Nat) (rs : List (List Int)) (x : List Int) : Prop where
  n1 : 1 ≤ n
  n2 : n ≤ 18
  p2 : 2 ≤ p
  p8 : p ≤ 8
  lp : rs.length = p
  rl : ∀ r ∈ rs, r.length = n ∧ ∀ v ∈ r, 1 ≤ v ∧ v ≤ 15
  pm : x.Perm (ids n)
def gD (rs : List (List Int)) (x : List Int) : D := .tup [.tup (rs.map tI), tI x]
def rwO (rs : List (List Int)) (i : Nat) : List Int := rs.getD i []
theorem rwO_get {rs : List (List Int)} {i : Nat} (h : i < rs.length) : rs[i]? = some (rwO rs i) := by
  unfold rwO
  rw [List.getD_eq_getElem?_getD, List.getElem?_eq_getElem h]; rfl
theorem rwO_mem {rs : List (List Int)} {i : Nat} (h : i < rs.length) : rwO rs i ∈ rs := List.mem_of_getElem? (rwO_get h)
theorem VG.vm {n p : Nat} {rs : List (List Int)} {x : List Int} (g : VG n p rs x) {i j : Nat} (hi : i < p) (hj : j < p) : VM n (rwO rs i) (rwO rs j) x where
  n1 := g.n1
  n2 := g.n2
  lf := (g.rl _ (rwO_mem (by rw [g.lp]; exact hi))).1
  ls := (g.rl _ (rwO_mem (by rw [g.lp]; exact hj))).1
  rf := (g.rl _ (rwO_mem (by rw [g.lp]; exact hi))).2
  rs := (g.rl _ (rwO_mem (by rw [g.lp]; exact hj))).2
  pm := g.pm
theorem at_rows {rs : List (List Int)} {i : Nat} (h : i < rs.length) : atI (rs.map tI) (i : Int) = some (tI (rwO rs i)) := by
  rw [at_nat _ _ (by rw [List.length_map]; exact h), List.getElem?_map, rwO_get h]; rfl
theorem x_match_of {n p : Nat} {rs : List (List Int)} {x : List Int} (g : VG n p rs x) {i j : Nat} (hi : i < p) (hj : j < p) :
    φ_match_of [.fz (gD rs x), .fz (.int (i : Nat)), .fz (.int (j : Nat))] = .ok (.fz (mD (rwO rs i) (rwO rs j) x)) [.fz (gD rs x), .fz (.int (i : Nat)), .fz (.int (j : Nat))] := by
  have e1 := at_rows (rs := rs) (i := i) (by rw [g.lp]; exact hi)
  have e2 := at_rows (rs := rs) (i := j) (by rw [g.lp]; exact hj)
  have a0 : atI [D.tup (rs.map tI), tI x] 0 = some (.tup (rs.map tI)) := rfl
  have a1 : atI [D.tup (rs.map tI), tI x] 1 = some (tI x) := rfl
  unfold φ_match_of gD mD
  simp only [dVar, vSlot, dC, dOp2, vOp2, dOpA, vOpA, vAn, An.r, dTst, DL.vBool, vTru, dTru, truth, dAnd, dOr, dNot, dAndV, dOrV, dNotV, dIfE, dNil, dCons, dTup, vTup, dLst, vLst, dSkip, vSeq, dSeq, dIf, dRet, dDrop, vSto, vSet, dSet, vAsg, dAsg, gN, DL.gNil, DL.gCons, gTupD, dFor, vTurn, dUn, gNeg, dMul, vMul, isNew, gAdd, DL.gSub, gII, tt2, cdiv, gFdiv, cmod, gMod, cpow, gPow, gLt, gLe, gGt, gGe, gEq_ii, gNe_ii, dIsN, DL.isNon, dCh, vCh, vCh2, dON, dOS, dSl, vSl, gSubL, dAug, vAug, isFN, vPar, dPar, vM, dM, isL, mApp, mPopAt, mPop, gIdx, vTIdx, isT, dTIdx, gIx, dFn, vFn, ress, gLen, gIsi5, isTy, kn, gAll, gAny, gInt, gAbs, gMax2, gMin2, gSum, gMax1, gMin1, gSorted, gList, gTuple, dR1, dR2, vR1, vR2, dLRg, dTRg, dLenSet, vLenSet, dSeqI, vSeqI, itemsOf, dRng1, dRng2, vRng1, vRng2, dEnum, dZip2, dZip3, vEnum, vZip2, vZip3, dLC, vLC, dCall, vCall, frzM, cSl, cSls, upR, cRes, atsOf, fnD, ownIn_G, ownG_nil, ownG_fz, ownG_no, ownG_own, wipeE, dStep, lcStep, dYes, vFin, vOut, outR, outE, dLend, vLend, lendE, backE, flatR, lend_fzo, back_fzo, lend_fz, lend_no, lend_own1, lend_own0, back_fz, back_no, back_own1, back_own0, flat_ints, flatO_ints, yPlain, yNil, vYSeq, ySeq, vYield, yYield, yFor, vGen, fzE, gnD, noE, vListG, dListG, gAddI, gMulI, dLit, dFmt, vFmt, dJs, dJoin, gStr, dCallB, vCallB, keepOwn, isOwn, res, frz, frzs, flat, O.bind_ok, O.bind_bad, O.bind_exn, List.nodup_cons, List.nodup_nil, List.not_mem_nil, List.mem_cons, List.mem_singleton, not_false_eq_true, and_true, true_and, List.contains_cons, List.contains_nil, Nat.zero_add, List.getElem?_nil, List.getElem?_cons_zero, List.getElem?_cons_succ, List.set_cons_zero, List.set_cons_succ, Option.map_some, Option.map_none, if_true, if_false, Bool.and_true, Bool.true_and, Bool.and_false, Bool.false_and, Bool.or_true, Bool.true_or, Bool.or_false, Bool.false_or, Bool.not_true, Bool.not_false, List.length_cons, List.length_nil, List.append_nil, List.cons_append, List.nil_append, List.replicate_succ, List.replicate_zero, decide_true, decide_false, ↓reduceIte, Int.cast_ofNat_Int, Int.reduceLE, Int.reduceLT, Int.reduceToNat, Int.reduceAdd, Int.reduceSub, Int.reduceMul, Int.reduceNeg, Int.reduceEq, Int.reduceNe, Int.reduceBEq, Int.reduceBNe, Int.reduceGT, Int.reduceGE, ne_eq, Nat.reduceAdd, Nat.reduceLeDiff, Nat.reduceEqDiff, Nat.reduceSub, Nat.reduceMul, Nat.reduceLT, Nat.reduceBEq, String.reduceEq, reduceCtorEq, beq_self_eq_true, List.map_cons, List.map_nil, List.reverse_nil, a0, a1, e1, e2]
/-- the result of i against j with k strokes -/
def RS (n : Nat) (rs : List (List Int)) (x : List Int) (i j : Nat) (k : Int) : Int := (hl (n : Nat) k (rwO rs i) (rwO rs j) x).sum
theorem dd_const (n : Int) : ∀ k : Nat, dd (List.replicate (k + 1) n) = [n]
  | 0 => rfl
  | k + 1 => by
    rw [List.replicate_succ]
    unfold dd
    have h := dd_const n k
    rw [if_pos (by simp [List.replicate_succ])]
    exact h
theorem VG.nd {n p : Nat} {rs : List (List Int)} {x : List Int} (g : VG n p rs x) : VM n (rwO rs 0) (rwO rs 0) x := g.vm (by have := g.p2; omega) (by have := g.p2; omega)
theorem x_is_group {n p : Nat} {rs : List (List Int)} {x : List Int} (g : VG n p rs x) : φ_is_group [.fz (gD rs x)] = .ok (.fz (.bl true)) [.fz (gD rs x)] := by
  have m := g.nd
  have p2 := g.p2
  have p8 := g.p8
  have e0 : atI (rs.map tI) 0 = some (tI (rwO rs 0)) := at_rows (rs := rs) (i := 0) (by rw [g.lp]; omega)
  have a0 : atI [D.tup (rs.map tI), tI x] 0 = some (.tup (rs.map tI)) := rfl
  have e1 : (2 : Int) ≤ (rs.length : Int) := by rw [g.lp]; omega
  have e2 : (rs.length : Int) ≤ 8 := by rw [g.lp]; omega
  have e3 : rs.length ≤ 1000000 := by rw [g.lp]; omega
  have e8 : gNe (.int 2) (.int 2) = some (.bl false) := by rw [gNe_ii]; rfl
  have g3 := x_good_index n x g.n2 m.lx m.rx m.nd
  have e4 : (((rwO rs 0).length : Nat) : Int) = (n : Int) := by rw [m.lf]
  have l1 : ∀ A : En, lcLoop (gN 3) dYes (dCall φ_good_scores [false] (dCons (dVar 3) dNil)) [3] (rs.map tI) [.fz (gD rs x), .fz (.tup (rs.map tI)), .fz (tI x), .no] [] = .ok (rs.map fun _ => .bl true) [.fz (gD rs x), .fz (.tup (rs.map tI)), .fz (tI x), .no] := fun A => by
    have := lcLoop_map (gg := gN 3) (ft := dYes) (fe := dCall φ_good_scores [false] (dCons (dVar 3) dNil)) (vs := [3]) tI (fun _ => .bl true) rs [.fz (gD rs x), .fz (.tup (rs.map tI)), .fz (tI x), .no] [] fun r hr => by
      have := g.rl r hr
      have q := x_good_scores r (by rw [this.1]; exact g.n1) (by rw [this.1]; exact g.n2) this.2
      simp only [dVar, vSlot, dC, dOp2, vOp2, dOpA, vOpA, vAn, An.r, dTst, DL.vBool, vTru, dTru, truth, dAnd, dOr, dNot, dAndV, dOrV, dNotV, dIfE, dNil, dCons, dTup, vTup, dLst, vLst, dSkip, vSeq, dSeq, dIf, dRet, dDrop, vSto, vSet, dSet, vAsg, dAsg, gN, DL.gNil, DL.gCons, gTupD, dFor, vTurn, dUn, gNeg, dMul, vMul, isNew, gAdd, DL.gSub, gII, tt2, cdiv, gFdiv, cmod, gMod, cpow, gPow, gLt, gLe, gGt, gGe, gEq_ii, gNe_ii, dIsN, DL.isNon, dCh, vCh, vCh2, dON, dOS, dSl, vSl, gSubL, dAug, vAug, isFN, vPar, dPar, vM, dM, isL, mApp, mPopAt, mPop, gIdx, vTIdx, isT, dTIdx, gIx, dFn, vFn, ress, gLen, gIsi5, isTy, kn, gAll, gAny, gInt, gAbs, gMax2, gMin2, gSum, gMax1, gMin1, gSorted, gList, gTuple, dR1, dR2, vR1, vR2, dLRg, dTRg, dLenSet, vLenSet, dSeqI, vSeqI, itemsOf, dRng1, dRng2, vRng1, vRng2, dEnum, dZip2, dZip3, vEnum, vZip2, vZip3, dLC, vLC, dCall, vCall, frzM, cSl, cSls, upR, cRes, atsOf, fnD, ownIn_G, ownG_nil, ownG_fz, ownG_no, ownG_own, wipeE, dStep, lcStep, dYes, vFin, vOut, outR, outE, dLend, vLend, lendE, backE, flatR, lend_fzo, back_fzo, lend_fz, lend_no, lend_own1, lend_own0, back_fz, back_no, back_own1, back_own0, flat_ints, flatO_ints, yPlain, yNil, vYSeq, ySeq, vYield, yYield, yFor, vGen, fzE, gnD, noE, vListG, dListG, gAddI, gMulI, dLit, dFmt, vFmt, dJs, dJoin, gStr, dCallB, vCallB, keepOwn, isOwn, res, frz, frzs, flat, O.bind_ok, O.bind_bad, O.bind_exn, List.nodup_cons, List.nodup_nil, List.not_mem_nil, List.mem_cons, List.mem_singleton, not_false_eq_true, and_true, true_and, List.contains_cons, List.contains_nil, Nat.zero_add, List.getElem?_nil, List.getElem?_cons_zero, List.getElem?_cons_succ, List.set_cons_zero, List.set_cons_succ, Option.map_some, Option.map_none, if_true, if_false, Bool.and_true, Bool.true_and, Bool.and_false, Bool.false_and, Bool.or_true, Bool.true_or, Bool.or_false, Bool.false_or, Bool.not_true, Bool.not_false, List.length_cons, List.length_nil, List.append_nil, List.cons_append, List.nil_append, List.replicate_succ, List.replicate_zero, decide_true, decide_false, ↓reduceIte, Int.cast_ofNat_Int, Int.reduceLE, Int.reduceLT, Int.reduceToNat, Int.reduceAdd, Int.reduceSub, Int.reduceMul, Int.reduceNeg, Int.reduceEq, Int.reduceNe, Int.reduceBEq, Int.reduceBNe, Int.reduceGT, Int.reduceGE, ne_eq, Nat.reduceAdd, Nat.reduceLeDiff, Nat.reduceEqDiff, Nat.reduceSub, Nat.reduceMul, Nat.reduceLT, Nat.reduceBEq, String.reduceEq, reduceCtorEq, beq_self_eq_true, List.map_cons, List.map_nil, List.reverse_nil, q]
    exact this
  have l1 := l1 []
  have l2 : lcLoop (gN 3) dYes (dFn gLen (dCons (dVar 3) dNil)) [3] (rs.map tI) [.fz (gD rs x), .fz (.tup (rs.map tI)), .fz (tI x), .no] [] = .ok (rs.map fun _ => .int (n : Nat)) [.fz (gD rs x), .fz (.tup (rs.map tI)), .fz (tI x), .no] := by
    have := lcLoop_map (gg := gN 3) (ft := dYes) (fe := dFn gLen (dCons (dVar 3) dNil)) (vs := [3]) tI (fun _ => .int (n : Nat)) rs [.fz (gD rs x), .fz (.tup (rs.map tI)), .fz (tI x), .no] [] fun r hr => by
      have e : ((r.length : Nat) : Int) = (n : Int) := by rw [(g.rl r hr).1]
      unfold tI
      simp only [dVar, vSlot, dC, dOp2, vOp2, dOpA, vOpA, vAn, An.r, dTst, DL.vBool, vTru, dTru, truth, dAnd, dOr, dNot, dAndV, dOrV, dNotV, dIfE, dNil, dCons, dTup, vTup, dLst, vLst, dSkip, vSeq, dSeq, dIf, dRet, dDrop, vSto, vSet, dSet, vAsg, dAsg, gN, DL.gNil, DL.gCons, gTupD, dFor, vTurn, dUn, gNeg, dMul, vMul, isNew, gAdd, DL.gSub, gII, tt2, cdiv, gFdiv, cmod, gMod, cpow, gPow, gLt, gLe, gGt, gGe, gEq_ii, gNe_ii, dIsN, DL.isNon, dCh, vCh, vCh2, dON, dOS, dSl, vSl, gSubL, dAug, vAug, isFN, vPar, dPar, vM, dM, isL, mApp, mPopAt, mPop, gIdx, vTIdx, isT, dTIdx, gIx, dFn, vFn, ress, gLen, gIsi5, isTy, kn, gAll, gAny, gInt, gAbs, gMax2, gMin2, gSum, gMax1, gMin1, gSorted, gList, gTuple, dR1, dR2, vR1, vR2, dLRg, dTRg, dLenSet, vLenSet, dSeqI, vSeqI, itemsOf, dRng1, dRng2, vRng1, vRng2, dEnum, dZip2, dZip3, vEnum, vZip2, vZip3, dLC, vLC, dCall, vCall, frzM, cSl, cSls, upR, cRes, atsOf, fnD, ownIn_G, ownG_nil, ownG_fz, ownG_no, ownG_own, wipeE, dStep, lcStep, dYes, vFin, vOut, outR, outE, dLend, vLend, lendE, backE, flatR, lend_fzo, back_fzo, lend_fz, lend_no, lend_own1, lend_own0, back_fz, back_no, back_own1, back_own0, flat_ints, flatO_ints, yPlain, yNil, vYSeq, ySeq, vYield, yYield, yFor, vGen, fzE, gnD, noE, vListG, dListG, gAddI, gMulI, dLit, dFmt, vFmt, dJs, dJoin, gStr, dCallB, vCallB, keepOwn, isOwn, res, frz, frzs, flat, O.bind_ok, O.bind_bad, O.bind_exn, List.nodup_cons, List.nodup_nil, List.not_mem_nil, List.mem_cons, List.mem_singleton, not_false_eq_true, and_true, true_and, List.contains_cons, List.contains_nil, Nat.zero_add, List.getElem?_nil, List.getElem?_cons_zero, List.getElem?_cons_succ, List.set_cons_zero, List.set_cons_succ, Option.map_some, Option.map_none, if_true, if_false, Bool.and_true, Bool.true_and, Bool.and_false, Bool.false_and, Bool.or_true, Bool.true_or, Bool.or_false, Bool.false_or, Bool.not_true, Bool.not_false, List.length_cons, List.length_nil, List.append_nil, List.cons_append, List.nil_append, List.replicate_succ, List.replicate_zero, decide_true, decide_false, ↓reduceIte, Int.cast_ofNat_Int, Int.reduceLE, Int.reduceLT, Int.reduceToNat, Int.reduceAdd, Int.reduceSub, Int.reduceMul, Int.reduceNeg, Int.reduceEq, Int.reduceNe, Int.reduceBEq, Int.reduceBNe, Int.reduceGT, Int.reduceGE, ne_eq, Nat.reduceAdd, Nat.reduceLeDiff, Nat.reduceEqDiff, Nat.reduceSub, Nat.reduceMul, Nat.reduceLT, Nat.reduceBEq, String.reduceEq, reduceCtorEq, beq_self_eq_true, List.map_cons, List.map_nil, List.reverse_nil, List.length_map, e]
    exact this
  have l3 : toIs (rs.map fun _ => D.int (n : Nat)) = some (List.replicate (rs.length - 1 + 1) (n : Int)) := by
    have : (rs.map fun _ => D.int (n : Nat)) = (List.replicate (rs.length - 1 + 1) (n : Int)).map D.int := by
      rw [List.map_const', List.map_replicate]
      congr 1
      rw [g.lp]; omega
    rw [this]
    exact toIs_of _
  have e9 : gEq (.int 1) (.int 1) = some (.bl true) := by rw [gEq_ii]; rfl
  have e10 : (List.replicate (rs.length - 1) (n : Int)).length ≤ 3999 := by rw [List.length_replicate, g.lp]; omega
  have e11 : dd ((n : Int) :: List.replicate (rs.length - 1) (n : Int)) = [(n : Int)] := dd_const n _
  unfold φ_is_group gD
  unfold gD at l1 l2
  simp only [dVar, vSlot, dC, dOp2, vOp2, dOpA, vOpA, vAn, An.r, dTst, DL.vBool, vTru, dTru, truth, dAnd, dOr, dNot, dAndV, dOrV, dNotV, dIfE, dNil, dCons, dTup, vTup, dLst, vLst, dSkip, vSeq, dSeq, dIf, dRet, dDrop, vSto, vSet, dSet, vAsg, dAsg, gN, DL.gNil, DL.gCons, gTupD, dFor, vTurn, dUn, gNeg, dMul, vMul, isNew, gAdd, DL.gSub, gII, tt2, cdiv, gFdiv, cmod, gMod, cpow, gPow, gLt, gLe, gGt, gGe, dIsN, DL.isNon, dCh, vCh, vCh2, dON, dOS, dSl, vSl, gSubL, dAug, vAug, isFN, vPar, dPar, vM, dM, isL, mApp, mPopAt, mPop, gIdx, vTIdx, isT, dTIdx, gIx, dFn, vFn, ress, gLen, gIsi5, isTy, kn, gAll, gAny, gInt, gAbs, gMax2, gMin2, gSum, gMax1, gMin1, gSorted, gList, gTuple, dR1, dR2, vR1, vR2, dLRg, dTRg, dLenSet, vLenSet, dSeqI, vSeqI, itemsOf, dRng1, dRng2, vRng1, vRng2, dEnum, dZip2, dZip3, vEnum, vZip2, vZip3, dLC, vLC, dCall, vCall, frzM, cSl, cSls, upR, cRes, atsOf, fnD, ownIn_G, ownG_nil, ownG_fz, ownG_no, ownG_own, wipeE, dStep, lcStep, dYes, vFin, vOut, outR, outE, dLend, vLend, lendE, backE, flatR, lend_fzo, back_fzo, lend_fz, lend_no, lend_own1, lend_own0, back_fz, back_no, back_own1, back_own0, flat_ints, flatO_ints, yPlain, yNil, vYSeq, ySeq, vYield, yYield, yFor, vGen, fzE, gnD, noE, vListG, dListG, gAddI, gMulI, dLit, dFmt, vFmt, dJs, dJoin, gStr, dCallB, vCallB, keepOwn, isOwn, res, frz, frzs, flat, O.bind_ok, O.bind_bad, O.bind_exn, List.nodup_cons, List.nodup_nil, List.not_mem_nil, List.mem_cons, List.mem_singleton, not_false_eq_true, and_true, true_and, List.contains_cons, List.contains_nil, Nat.zero_add, List.getElem?_nil, List.getElem?_cons_zero, List.getElem?_cons_succ, List.set_cons_zero, List.set_cons_succ, Option.map_some, Option.map_none, if_true, if_false, Bool.and_true, Bool.true_and, Bool.and_false, Bool.false_and, Bool.or_true, Bool.true_or, Bool.or_false, Bool.false_or, Bool.not_true, Bool.not_false, List.length_cons, List.length_nil, List.append_nil, List.cons_append, List.nil_append, List.replicate_succ, List.replicate_zero, decide_true, decide_false, ↓reduceIte, Int.cast_ofNat_Int, Int.reduceLE, Int.reduceLT, Int.reduceToNat, Int.reduceAdd, Int.reduceSub, Int.reduceMul, Int.reduceNeg, Int.reduceEq, Int.reduceNe, Int.reduceBEq, Int.reduceBNe, Int.reduceGT, Int.reduceGE, ne_eq, Nat.reduceAdd, Nat.reduceLeDiff, Nat.reduceEqDiff, Nat.reduceSub, Nat.reduceMul, Nat.reduceLT, Nat.reduceBEq, String.reduceEq, reduceCtorEq, beq_self_eq_true, List.map_cons, List.map_nil, List.reverse_nil, a0, e0, e1, e2, e3, e8, l1, l2, List.length_map, all_true, all_id, l3, e10, e11, e9]
  unfold tI at g3 e0 ⊢
  simp only [dVar, vSlot, dC, dOp2, vOp2, dOpA, vOpA, vAn, An.r, dTst, DL.vBool, vTru, dTru, truth, dAnd, dOr, dNot, dAndV, dOrV, dNotV, dIfE, dNil, dCons, dTup, vTup, dLst, vLst, dSkip, vSeq, dSeq, dIf, dRet, dDrop, vSto, vSet, dSet, vAsg, dAsg, gN, DL.gNil, DL.gCons, gTupD, dFor, vTurn, dUn, gNeg, dMul, vMul, isNew, gAdd, DL.gSub, gII, tt2, cdiv, gFdiv, cmod, gMod, cpow, gPow, gLt, gLe, gGt, gGe, dIsN, DL.isNon, dCh, vCh, vCh2, dON, dOS, dSl, vSl, gSubL, dAug, vAug, isFN, vPar, dPar, vM, dM, isL, mApp, mPopAt, mPop, gIdx, vTIdx, isT, dTIdx, gIx, dFn, vFn, ress, gLen, gIsi5, isTy, kn, gAll, gAny, gInt, gAbs, gMax2, gMin2, gSum, gMax1, gMin1, gSorted, gList, gTuple, dR1, dR2, vR1, vR2, dLRg, dTRg, dLenSet, vLenSet, dSeqI, vSeqI, itemsOf, dRng1, dRng2, vRng1, vRng2, dEnum, dZip2, dZip3, vEnum, vZip2, vZip3, dLC, vLC, dCall, vCall, frzM, cSl, cSls, upR, cRes, atsOf, fnD, ownIn_G, ownG_nil, ownG_fz, ownG_no, ownG_own, wipeE, dStep, lcStep, dYes, vFin, vOut, outR, outE, dLend, vLend, lendE, backE, flatR, lend_fzo, back_fzo, lend_fz, lend_no, lend_own1, lend_own0, back_fz, back_no, back_own1, back_own0, flat_ints, flatO_ints, yPlain, yNil, vYSeq, ySeq, vYield, yYield, yFor, vGen, fzE, gnD, noE, vListG, dListG, gAddI, gMulI, dLit, dFmt, vFmt, dJs, dJoin, gStr, dCallB, vCallB, keepOwn, isOwn, res, frz, frzs, flat, O.bind_ok, O.bind_bad, O.bind_exn, List.nodup_cons, List.nodup_nil, List.not_mem_nil, List.mem_cons, List.mem_singleton, not_false_eq_true, and_true, true_and, List.contains_cons, List.contains_nil, Nat.zero_add, List.getElem?_nil, List.getElem?_cons_zero, List.getElem?_cons_succ, List.set_cons_zero, List.set_cons_succ, Option.map_some, Option.map_none, if_true, if_false, Bool.and_true, Bool.true_and, Bool.and_false, Bool.false_and, Bool.or_true, Bool.true_or, Bool.or_false, Bool.false_or, Bool.not_true, Bool.not_false, List.length_cons, List.length_nil, List.append_nil, List.cons_append, List.nil_append, List.replicate_succ, List.replicate_zero, decide_true, decide_false, ↓reduceIte, Int.cast_ofNat_Int, Int.reduceLE, Int.reduceLT, Int.reduceToNat, Int.reduceAdd, Int.reduceSub, Int.reduceMul, Int.reduceNeg, Int.reduceEq, Int.reduceNe, Int.reduceBEq, Int.reduceBNe, Int.reduceGT, Int.reduceGE, ne_eq, Nat.reduceAdd, Nat.reduceLeDiff, Nat.reduceEqDiff, Nat.reduceSub, Nat.reduceMul, Nat.reduceLT, Nat.reduceBEq, String.reduceEq, reduceCtorEq, beq_self_eq_true, List.map_cons, List.map_nil, List.reverse_nil, a0, e0, List.length_map, e4, g3]
def hO (hs : List Int) (i : Nat) : Int := hs.getD i 0
theorem hO_get {hs : List Int} {i : Nat} (h : i < hs.length) : atI (hs.map D.int) (i : Int) = some (.int (hO hs i)) := by
  rw [at_nat _ _ (by rw [List.length_map]; exact h), List.getElem?_map, List.getElem?_eq_getElem h]
  unfold hO
  rw [List.getD_eq_getElem?_getD, List.getElem?_eq_getElem h]
  rfl
def fI (l : List Int) : D := .fl (l.map .int)
section
variable {n p : Nat} {rs : List (List Int)} {x : List Int}
theorem x_good_handicaps (g : VG n p rs x) (hs : List Int) (hl : hs.length = p) (hb : ∀ v ∈ hs, -1000 ≤ v ∧ v ≤ 1000) : φ_good_handicaps [.fz (gD rs x), .fz (tI hs)] = .ok (.fz (.bl true)) [.fz (gD rs x), .fz (tI hs)] := by
  have p8 := g.p8
  have e3 : ((rs.length : Nat) : Int) = (p : Int) := by rw [g.lp]
  have e4 : ((hs.length : Nat) : Int) = (p : Int) := by rw [hl]
  have e5 : hs.length ≤ 1000000 := by omega
  have a0 : atI [D.tup (rs.map tI), tI x] 0 = some (.tup (rs.map tI)) := rfl
  have e7 : gNe (.int (p : Nat)) (.int (p : Nat)) = some (.bl false) := by simp [gNe, okq, sok, dep, deq]
  have l1 := lcLoop_map (gg := gN 2) (ft := dYes) (fe := dCall φ_is_from [false, false, false] (dCons (dVar 2) (dCons (dUn gNeg (dC (.int 1000))) (dCons (dC (.int 1000)) dNil)))) (vs := [2]) D.int (fun _ => .bl true) hs [.fz (gD rs x), .fz (.tup (hs.map D.int)), .no] [] fun v hv => by
    have := hb v hv
    simp only [dVar, vSlot, dC, dOp2, vOp2, dOpA, vOpA, vAn, An.r, dTst, DL.vBool, vTru, dTru, truth, dAnd, dOr, dNot, dAndV, dOrV, dNotV, dIfE, dNil, dCons, dTup, vTup, dLst, vLst, dSkip, vSeq, dSeq, dIf, dRet, dDrop, vSto, vSet, dSet, vAsg, dAsg, gN, DL.gNil, DL.gCons, gTupD, dFor, vTurn, dUn, gNeg, dMul, vMul, isNew, gAdd, DL.gSub, gII, tt2, cdiv, gFdiv, cmod, gMod, cpow, gPow, gLt, gLe, gGt, gGe, gEq_ii, gNe_ii, dIsN, DL.isNon, dCh, vCh, vCh2, dON, dOS, dSl, vSl, gSubL, dAug, vAug, isFN, vPar, dPar, vM, dM, isL, mApp, mPopAt, mPop, gIdx, vTIdx, isT, dTIdx, gIx, dFn, vFn, ress, gLen, gIsi5, isTy, kn, gAll, gAny, gInt, gAbs, gMax2, gMin2, gSum, gMax1, gMin1, gSorted, gList, gTuple, dR1, dR2, vR1, vR2, dLRg, dTRg, dLenSet, vLenSet, dSeqI, vSeqI, itemsOf, dRng1, dRng2, vRng1, vRng2, dEnum, dZip2, dZip3, vEnum, vZip2, vZip3, dLC, vLC, dCall, vCall, frzM, cSl, cSls, upR, cRes, atsOf, fnD, ownIn_G, ownG_nil, ownG_fz, ownG_no, ownG_own, wipeE, dStep, lcStep, dYes, vFin, vOut, outR, outE, dLend, vLend, lendE, backE, flatR, lend_fzo, back_fzo, lend_fz, lend_no, lend_own1, lend_own0, back_fz, back_no, back_own1, back_own0, flat_ints, flatO_ints, yPlain, yNil, vYSeq, ySeq, vYield, yYield, yFor, vGen, fzE, gnD, noE, vListG, dListG, gAddI, gMulI, dLit, dFmt, vFmt, dJs, dJoin, gStr, dCallB, vCallB, keepOwn, isOwn, res, frz, frzs, flat, O.bind_ok, O.bind_bad, O.bind_exn, List.nodup_cons, List.nodup_nil, List.not_mem_nil, List.mem_cons, List.mem_singleton, not_false_eq_true, and_true, true_and, List.contains_cons, List.contains_nil, Nat.zero_add, List.getElem?_nil, List.getElem?_cons_zero, List.getElem?_cons_succ, List.set_cons_zero, List.set_cons_succ, Option.map_some, Option.map_none, if_true, if_false, Bool.and_true, Bool.true_and, Bool.and_false, Bool.false_and, Bool.or_true, Bool.true_or, Bool.or_false, Bool.false_or, Bool.not_true, Bool.not_false, List.length_cons, List.length_nil, List.append_nil, List.cons_append, List.nil_append, List.replicate_succ, List.replicate_zero, decide_true, decide_false, ↓reduceIte, Int.cast_ofNat_Int, Int.reduceLE, Int.reduceLT, Int.reduceToNat, Int.reduceAdd, Int.reduceSub, Int.reduceMul, Int.reduceNeg, Int.reduceEq, Int.reduceNe, Int.reduceBEq, Int.reduceBNe, Int.reduceGT, Int.reduceGE, ne_eq, Nat.reduceAdd, Nat.reduceLeDiff, Nat.reduceEqDiff, Nat.reduceSub, Nat.reduceMul, Nat.reduceLT, Nat.reduceBEq, String.reduceEq, reduceCtorEq, beq_self_eq_true, List.map_cons, List.map_nil, List.reverse_nil, x_is_from, this.1, this.2]
  unfold φ_good_handicaps tI
  unfold gD at l1 ⊢
  unfold tI at l1 a0 ⊢
  simp only [dVar, vSlot, dC, dOp2, vOp2, dOpA, vOpA, vAn, An.r, dTst, DL.vBool, vTru, dTru, truth, dAnd, dOr, dNot, dAndV, dOrV, dNotV, dIfE, dNil, dCons, dTup, vTup, dLst, vLst, dSkip, vSeq, dSeq, dIf, dRet, dDrop, vSto, vSet, dSet, vAsg, dAsg, gN, DL.gNil, DL.gCons, gTupD, dFor, vTurn, dUn, gNeg, dMul, vMul, isNew, gAdd, DL.gSub, gII, tt2, cdiv, gFdiv, cmod, gMod, cpow, gPow, gLt, gLe, gGt, gGe, dIsN, DL.isNon, dCh, vCh, vCh2, dON, dOS, dSl, vSl, gSubL, dAug, vAug, isFN, vPar, dPar, vM, dM, isL, mApp, mPopAt, mPop, gIdx, vTIdx, isT, dTIdx, gIx, dFn, vFn, ress, gLen, gIsi5, isTy, kn, gAll, gAny, gInt, gAbs, gMax2, gMin2, gSum, gMax1, gMin1, gSorted, gList, gTuple, dR1, dR2, vR1, vR2, dLRg, dTRg, dLenSet, vLenSet, dSeqI, vSeqI, itemsOf, dRng1, dRng2, vRng1, vRng2, dEnum, dZip2, dZip3, vEnum, vZip2, vZip3, dLC, vLC, dCall, vCall, frzM, cSl, cSls, upR, cRes, atsOf, fnD, ownIn_G, ownG_nil, ownG_fz, ownG_no, ownG_own, wipeE, dStep, lcStep, dYes, vFin, vOut, outR, outE, dLend, vLend, lendE, backE, flatR, lend_fzo, back_fzo, lend_fz, lend_no, lend_own1, lend_own0, back_fz, back_no, back_own1, back_own0, flat_ints, flatO_ints, yPlain, yNil, vYSeq, ySeq, vYield, yYield, yFor, vGen, fzE, gnD, noE, vListG, dListG, gAddI, gMulI, dLit, dFmt, vFmt, dJs, dJoin, gStr, dCallB, vCallB, keepOwn, isOwn, res, frz, frzs, flat, O.bind_ok, O.bind_bad, O.bind_exn, List.nodup_cons, List.nodup_nil, List.not_mem_nil, List.mem_cons, List.mem_singleton, not_false_eq_true, and_true, true_and, List.contains_cons, List.contains_nil, Nat.zero_add, List.getElem?_nil, List.getElem?_cons_zero, List.getElem?_cons_succ, List.set_cons_zero, List.set_cons_succ, Option.map_some, Option.map_none, if_true, if_false, Bool.and_true, Bool.true_and, Bool.and_false, Bool.false_and, Bool.or_true, Bool.true_or, Bool.or_false, Bool.false_or, Bool.not_true, Bool.not_false, List.length_cons, List.length_nil, List.append_nil, List.cons_append, List.nil_append, List.replicate_succ, List.replicate_zero, decide_true, decide_false, ↓reduceIte, Int.cast_ofNat_Int, Int.reduceLE, Int.reduceLT, Int.reduceToNat, Int.reduceAdd, Int.reduceSub, Int.reduceMul, Int.reduceNeg, Int.reduceEq, Int.reduceNe, Int.reduceBEq, Int.reduceBNe, Int.reduceGT, Int.reduceGE, ne_eq, Nat.reduceAdd, Nat.reduceLeDiff, Nat.reduceEqDiff, Nat.reduceSub, Nat.reduceMul, Nat.reduceLT, Nat.reduceBEq, String.reduceEq, reduceCtorEq, beq_self_eq_true, List.map_cons, List.map_nil, List.reverse_nil, a0, List.length_map, e3, e4, e5, e7, l1, all_true, all_id]
theorem x_rsrow (g : VG n p rs x) (hs : List Int) (hl : hs.length = p) (i : Nat) (hi : i < p) (ds : List D) (hd : ds.length ≤ 100) (s4 s5 : Sl) :
    ∃ c5, dStep g_results_1 b_results_1 (.int (i : Nat)) [.fz (gD rs x), .fz (tI hs), .own (.lst ds), .fz (.int (p : Nat)), s4, s5, .no] = .ok .nx [.fz (gD rs x), .fz (tI hs), .own (.lst (ds ++ [fI ((List.range p).map fun j => RS n rs x i j (hO hs i - hO hs j))])), .fz (.int (p : Nat)), .fz (.int (i : Nat)), c5, .no] := by
  have p8 := g.p8
  have hsm := rg8 p (by omega)
  have hr : (rangeD 0 p).length ≤ 1000000 := by rw [rangeD_length]; omega
  have l1 := lcLoop_map (gg := gN 6) (ft := dYes) (fe := dFn gSum (dCons (dCall φ_holes_of [false, false] (dCons (dCall φ_match_of [false, false, false] (dCons (dVar 0) (dCons (dVar 4) (dCons (dVar 6) dNil)))) (dCons (dOp2 gSub (dOpA gIx (dVar 1) (dVar 4)) (dOpA gIx (dVar 1) (dVar 6))) dNil))) dNil)) (vs := [6]) (fun j : Nat => D.int (j : Nat)) (fun j => .int (RS n rs x i j (hO hs i - hO hs j))) (List.range p) [.fz (gD rs x), .fz (tI hs), .own (.lst ds), .fz (.int (p : Nat)), .fz (.int (i : Nat)), s5, .no] [] fun j hj => by
    have hj := List.mem_range.mp hj
    have e1 := x_match_of g hi hj
    have e2 := x_holes_of (g.vm hi hj) (hO hs i - hO hs j)
    have e3 := hO_get (hs := hs) (i := i) (by omega)
    have e4 := hO_get (hs := hs) (i := j) (by omega)
    unfold RS
    unfold tI
    simp only [dVar, vSlot, dC, dOp2, vOp2, dOpA, vOpA, vAn, An.r, dTst, DL.vBool, vTru, dTru, truth, dAnd, dOr, dNot, dAndV, dOrV, dNotV, dIfE, dNil, dCons, dTup, vTup, dLst, vLst, dSkip, vSeq, dSeq, dIf, dRet, dDrop, vSto, vSet, dSet, vAsg, dAsg, gN, DL.gNil, DL.gCons, gTupD, dFor, vTurn, dUn, gNeg, dMul, vMul, isNew, gAdd, DL.gSub, gII, tt2, cdiv, gFdiv, cmod, gMod, cpow, gPow, gLt, gLe, gGt, gGe, gEq_ii, gNe_ii, dIsN, DL.isNon, dCh, vCh, vCh2, dON, dOS, dSl, vSl, gSubL, dAug, vAug, isFN, vPar, dPar, vM, dM, isL, mApp, mPopAt, mPop, gIdx, vTIdx, isT, dTIdx, gIx, dFn, vFn, ress, gLen, gIsi5, isTy, kn, gAll, gAny, gInt, gAbs, gMax2, gMin2, gSum, gMax1, gMin1, gSorted, gList, gTuple, dR1, dR2, vR1, vR2, dLRg, dTRg, dLenSet, vLenSet, dSeqI, vSeqI, itemsOf, dRng1, dRng2, vRng1, vRng2, dEnum, dZip2, dZip3, vEnum, vZip2, vZip3, dLC, vLC, dCall, vCall, frzM, cSl, cSls, upR, cRes, atsOf, fnD, ownIn_G, ownG_nil, ownG_fz, ownG_no, ownG_own, wipeE, dStep, lcStep, dYes, vFin, vOut, outR, outE, dLend, vLend, lendE, backE, flatR, lend_fzo, back_fzo, lend_fz, lend_no, lend_own1, lend_own0, back_fz, back_no, back_own1, back_own0, flat_ints, flatO_ints, yPlain, yNil, vYSeq, ySeq, vYield, yYield, yFor, vGen, fzE, gnD, noE, vListG, dListG, gAddI, gMulI, dLit, dFmt, vFmt, dJs, dJoin, gStr, dCallB, vCallB, keepOwn, isOwn, res, frz, frzs, flat, O.bind_ok, O.bind_bad, O.bind_exn, List.nodup_cons, List.nodup_nil, List.not_mem_nil, List.mem_cons, List.mem_singleton, not_false_eq_true, and_true, true_and, List.contains_cons, List.contains_nil, Nat.zero_add, List.getElem?_nil, List.getElem?_cons_zero, List.getElem?_cons_succ, List.set_cons_zero, List.set_cons_succ, Option.map_some, Option.map_none, if_true, if_false, Bool.and_true, Bool.true_and, Bool.and_false, Bool.false_and, Bool.or_true, Bool.true_or, Bool.or_false, Bool.false_or, Bool.not_true, Bool.not_false, List.length_cons, List.length_nil, List.append_nil, List.cons_append, List.nil_append, List.replicate_succ, List.replicate_zero, decide_true, decide_false, ↓reduceIte, Int.cast_ofNat_Int, Int.reduceLE, Int.reduceLT, Int.reduceToNat, Int.reduceAdd, Int.reduceSub, Int.reduceMul, Int.reduceNeg, Int.reduceEq, Int.reduceNe, Int.reduceBEq, Int.reduceBNe, Int.reduceGT, Int.reduceGE, ne_eq, Nat.reduceAdd, Nat.reduceLeDiff, Nat.reduceEqDiff, Nat.reduceSub, Nat.reduceMul, Nat.reduceLT, Nat.reduceBEq, String.reduceEq, reduceCtorEq, beq_self_eq_true, List.map_cons, List.map_nil, List.reverse_nil, e1, e2, e3, e4, toIs_of]
  rw [← rng0] at l1
  have hmap : (List.range p).map (fun j => D.int (RS n rs x i j (hO hs i - hO hs j))) = ((List.range p).map fun j => RS n rs x i j (hO hs i - hO hs j)).map D.int := by rw [List.map_map]; rfl
  rw [hmap] at l1
  simp only [DL.gSub] at l1
  have hd2 : decide (ds.length < 1000000) = true := decide_eq_true (by omega)
  refine ⟨.fz (fI ((List.range p).map fun j => RS n rs x i j (hO hs i - hO hs j))), ?_⟩
  unfold g_results_1 b_results_1 fI
  simp only [dVar, vSlot, dC, dOp2, vOp2, dOpA, vOpA, vAn, An.r, dTst, DL.vBool, vTru, dTru, truth, dAnd, dOr, dNot, dAndV, dOrV, dNotV, dIfE, dNil, dCons, dTup, vTup, dLst, vLst, dSkip, vSeq, dSeq, dIf, dRet, dDrop, vSto, vSet, dSet, vAsg, dAsg, gN, DL.gNil, DL.gCons, gTupD, dFor, vTurn, dUn, gNeg, dMul, vMul, isNew, gAdd, DL.gSub, gII, tt2, cdiv, gFdiv, cmod, gMod, cpow, gPow, gLt, gLe, gGt, gGe, gEq_ii, gNe_ii, dIsN, DL.isNon, dCh, vCh, vCh2, dON, dOS, dSl, vSl, gSubL, dAug, vAug, isFN, vPar, dPar, vM, dM, isL, mApp, mPopAt, mPop, gIdx, vTIdx, isT, dTIdx, gIx, dFn, vFn, ress, gLen, gIsi5, isTy, kn, gAll, gAny, gInt, gAbs, gMax2, gMin2, gSum, gMax1, gMin1, gSorted, gList, gTuple, dR1, dR2, vR1, vR2, dLRg, dTRg, dLenSet, vLenSet, dSeqI, vSeqI, itemsOf, dRng1, dRng2, vRng1, vRng2, dEnum, dZip2, dZip3, vEnum, vZip2, vZip3, dLC, vLC, dCall, vCall, frzM, cSl, cSls, upR, cRes, atsOf, fnD, ownIn_G, ownG_nil, ownG_fz, ownG_no, ownG_own, wipeE, dStep, lcStep, dYes, vFin, vOut, outR, outE, dLend, vLend, lendE, backE, flatR, lend_fzo, back_fzo, lend_fz, lend_no, lend_own1, lend_own0, back_fz, back_no, back_own1, back_own0, flat_ints, flatO_ints, yPlain, yNil, vYSeq, ySeq, vYield, yYield, yFor, vGen, fzE, gnD, noE, vListG, dListG, gAddI, gMulI, dLit, dFmt, vFmt, dJs, dJoin, gStr, dCallB, vCallB, keepOwn, isOwn, res, frz, frzs, flat, O.bind_ok, O.bind_bad, O.bind_exn, List.nodup_cons, List.nodup_nil, List.not_mem_nil, List.mem_cons, List.mem_singleton, not_false_eq_true, and_true, true_and, List.contains_cons, List.contains_nil, Nat.zero_add, List.getElem?_nil, List.getElem?_cons_zero, List.getElem?_cons_succ, List.set_cons_zero, List.set_cons_succ, Option.map_some, Option.map_none, if_true, if_false, Bool.and_true, Bool.true_and, Bool.and_false, Bool.false_and, Bool.or_true, Bool.true_or, Bool.or_false, Bool.false_or, Bool.not_true, Bool.not_false, List.length_cons, List.length_nil, List.append_nil, List.cons_append, List.nil_append, List.replicate_succ, List.replicate_zero, decide_true, decide_false, ↓reduceIte, Int.cast_ofNat_Int, Int.reduceLE, Int.reduceLT, Int.reduceToNat, Int.reduceAdd, Int.reduceSub, Int.reduceMul, Int.reduceNeg, Int.reduceEq, Int.reduceNe, Int.reduceBEq, Int.reduceBNe, Int.reduceGT, Int.reduceGE, ne_eq, Nat.reduceAdd, Nat.reduceLeDiff, Nat.reduceEqDiff, Nat.reduceSub, Nat.reduceMul, Nat.reduceLT, Nat.reduceBEq, String.reduceEq, reduceCtorEq, beq_self_eq_true, List.map_cons, List.map_nil, List.reverse_nil, hsm, Int.sub_zero, Int.toNat_natCast, l1, hr, hd2, dFl, vFl]
def rsT (n : Nat) (rs : List (List Int)) (x : List Int) (p : Nat) (h : Nat → Int) (i : Nat) : List Int := (List.range p).map fun j => RS n rs x i j (h i - h j)
theorem L_rs (g : VG n p rs x) (hs : List Int) (hl : hs.length = p) : ∀ (is : List Nat) (ds : List D) (s4 s5 : Sl), (∀ i ∈ is, i < p) → ds.length + is.length ≤ 100 →
    ∃ c4 c5, dLoop g_results_1 b_results_1 (is.map fun i => D.int (i : Nat)) [.fz (gD rs x), .fz (tI hs), .own (.lst ds), .fz (.int (p : Nat)), s4, s5, .no] = .ok .nx [.fz (gD rs x), .fz (tI hs), .own (.lst (ds ++ is.map fun i => fI (rsT n rs x p (hO hs) i))), .fz (.int (p : Nat)), c4, c5, .no]
  | [], ds, s4, s5, _, _ => ⟨s4, s5, by rw [List.map_nil, List.map_nil, List.append_nil]; rfl⟩
  | i :: is, ds, s4, s5, hi, hn => by
    rw [List.length_cons] at hn
    obtain ⟨c5, st⟩ := x_rsrow g hs hl i (hi i List.mem_cons_self) ds (by omega) s4 s5
    obtain ⟨d4, d5, e⟩ := L_rs g hs hl is (ds ++ [fI (rsT n rs x p (hO hs) i)]) (.fz (.int (i : Nat))) c5 (fun k hk => hi k (List.mem_cons_of_mem _ hk)) (by rw [List.length_append, List.length_singleton]; omega)
    refine ⟨d4, d5, ?_⟩
    have e2 : ds ++ fI (rsT n rs x p (hO hs) i) :: is.map (fun i => fI (rsT n rs x p (hO hs) i)) = ds ++ [fI (rsT n rs x p (hO hs) i)] ++ is.map fun i => fI (rsT n rs x p (hO hs) i) := by simp
    rw [List.map_cons, dLoop_cons, st, List.map_cons, e2]
    exact e
theorem x_results (g : VG n p rs x) (hs : List Int) (hl : hs.length = p) (hb : ∀ v ∈ hs, -1000 ≤ v ∧ v ≤ 1000) :
    φ_results [.fz (gD rs x), .fz (tI hs)] = .ok (.new (.lst ((List.range p).map fun i => fI (rsT n rs x p (hO hs) i)))) [.fz (gD rs x), .fz (tI hs)] := by
  have p8 := g.p8
  have e1 := x_is_group g
  have e2 := x_good_handicaps g hs hl hb
  obtain ⟨c4, c5, e4⟩ := L_rs g hs hl (List.range p) [] .no .no (fun i hi => List.mem_range.mp hi) (by rw [List.length_nil, List.length_range]; omega)
  have e3 : ((rs.length : Nat) : Int) = (p : Int) := by rw [g.lp]
  have a0 : atI [D.tup (rs.map tI), tI x] 0 = some (.tup (rs.map tI)) := rfl
  have hs' := rg8 p (by omega)
  rw [← rng0, List.nil_append] at e4
  unfold φ_results
  unfold gD at e1 e2 e4 ⊢
  simp only [dVar, vSlot, dC, dOp2, vOp2, dOpA, vOpA, vAn, An.r, dTst, DL.vBool, vTru, dTru, truth, dAnd, dOr, dNot, dAndV, dOrV, dNotV, dIfE, dNil, dCons, dTup, vTup, dLst, vLst, dSkip, vSeq, dSeq, dIf, dRet, dDrop, vSto, vSet, dSet, vAsg, dAsg, gN, DL.gNil, DL.gCons, gTupD, dFor, vTurn, dUn, gNeg, dMul, vMul, isNew, gAdd, DL.gSub, gII, tt2, cdiv, gFdiv, cmod, gMod, cpow, gPow, gLt, gLe, gGt, gGe, gEq_ii, gNe_ii, dIsN, DL.isNon, dCh, vCh, vCh2, dON, dOS, dSl, vSl, gSubL, dAug, vAug, isFN, vPar, dPar, vM, dM, isL, mApp, mPopAt, mPop, gIdx, vTIdx, isT, dTIdx, gIx, dFn, vFn, ress, gLen, gIsi5, isTy, kn, gAll, gAny, gInt, gAbs, gMax2, gMin2, gSum, gMax1, gMin1, gSorted, gList, gTuple, dR1, dR2, vR1, vR2, dLRg, dTRg, dLenSet, vLenSet, dSeqI, vSeqI, itemsOf, dRng1, dRng2, vRng1, vRng2, dEnum, dZip2, dZip3, vEnum, vZip2, vZip3, dLC, vLC, dCall, vCall, frzM, cSl, cSls, upR, cRes, atsOf, fnD, ownIn_G, ownG_nil, ownG_fz, ownG_no, ownG_own, wipeE, dStep, lcStep, dYes, vFin, vOut, outR, outE, dLend, vLend, lendE, backE, flatR, lend_fzo, back_fzo, lend_fz, lend_no, lend_own1, lend_own0, back_fz, back_no, back_own1, back_own0, flat_ints, flatO_ints, yPlain, yNil, vYSeq, ySeq, vYield, yYield, yFor, vGen, fzE, gnD, noE, vListG, dListG, gAddI, gMulI, dLit, dFmt, vFmt, dJs, dJoin, gStr, dCallB, vCallB, keepOwn, isOwn, res, frz, frzs, flat, O.bind_ok, O.bind_bad, O.bind_exn, List.nodup_cons, List.nodup_nil, List.not_mem_nil, List.mem_cons, List.mem_singleton, not_false_eq_true, and_true, true_and, List.contains_cons, List.contains_nil, Nat.zero_add, List.getElem?_nil, List.getElem?_cons_zero, List.getElem?_cons_succ, List.set_cons_zero, List.set_cons_succ, Option.map_some, Option.map_none, if_true, if_false, Bool.and_true, Bool.true_and, Bool.and_false, Bool.false_and, Bool.or_true, Bool.true_or, Bool.or_false, Bool.false_or, Bool.not_true, Bool.not_false, List.length_cons, List.length_nil, List.append_nil, List.cons_append, List.nil_append, List.replicate_succ, List.replicate_zero, decide_true, decide_false, ↓reduceIte, Int.cast_ofNat_Int, Int.reduceLE, Int.reduceLT, Int.reduceToNat, Int.reduceAdd, Int.reduceSub, Int.reduceMul, Int.reduceNeg, Int.reduceEq, Int.reduceNe, Int.reduceBEq, Int.reduceBNe, Int.reduceGT, Int.reduceGE, ne_eq, Nat.reduceAdd, Nat.reduceLeDiff, Nat.reduceEqDiff, Nat.reduceSub, Nat.reduceMul, Nat.reduceLT, Nat.reduceBEq, String.reduceEq, reduceCtorEq, beq_self_eq_true, List.map_cons, List.map_nil, List.reverse_nil, a0, List.length_map, e1, e2, e3, hs', Int.sub_zero, Int.toNat_natCast, e4]
end

theorem Dk.flat {m : Nat} {d : D} (h : Dk m d) : flatO d = true := by
  obtain ⟨a, b, c, rfl, _⟩ := h
  rfl
theorem L_nearG (m n : Nat) (d : D) (f : List Int) (S0 S1 S2 S3 S4 S5 S6 S7 S8 : Sl) (h : Dk m d) (hm : m < 1000001) (hf : Sc n f) (hn : n ≤ 1000) :
    ∃ (l : List Int) (d2 : D), lcLoop cg__law_group_1 ct__law_group_1 ce__law_group_1 [9] (f.map .int) [.own d, S1, S2, S3, S4, S5, S6, S7, S8, .no] [] = .ok (l.map .int) [.own d2, S1, S2, S3, S4, S5, S6, S7, S8, .no] ∧ Sc n l ∧ Dk (m + n) d2 := by
  obtain ⟨acc, ε', e, l, d2, hacc, hl, hv, hε, hd2⟩ := lcLoop_from (gg := cg__law_group_1) (ft := ct__law_group_1) (fe := ce__law_group_1) (vs := [9]) (ds := f.map .int) (ε := [.own d, S1, S2, S3, S4, S5, S6, S7, S8, .no])
    (fun i acc ε => ∃ (l : List Int) (d2 : D), acc = l.map .int ∧ l.length = i ∧ (∀ v ∈ l, 1 ≤ v ∧ v ≤ 15) ∧ ε = [.own d2, S1, S2, S3, S4, S5, S6, S7, S8, .no] ∧ Dk (m + i) d2)
    ⟨[], d, rfl, rfl, fun v hv => (by simp at hv), rfl, h⟩ (fun i y ε acc hy ⟨l, d2, hacc, hl, hv, hε, hd2⟩ => by
      subst hacc hε
      obtain ⟨hi, ey⟩ := List.getElem?_eq_some_iff.mp hy
      rw [List.length_map, hf.l] at hi
      rw [List.getElem_map] at ey
      subst ey
      obtain ⟨u, d3, e3, u0, u1, hd3⟩ := x_pick (m + i) d2 3 hd2 (by omega) (by omega) (by omega)
      generalize hz : f[i]'(by rw [hf.l]; exact hi) = z
      refine ⟨some (.int (if (if z + u - 1 < 15 then z + u - 1 else 15) > 1 then (if z + u - 1 < 15 then z + u - 1 else 15) else 1)), [.own d3, S1, S2, S3, S4, S5, S6, S7, S8, .no], ?_, l ++ [if (if z + u - 1 < 15 then z + u - 1 else 15) > 1 then (if z + u - 1 < 15 then z + u - 1 else 15) else 1], d3, by simp, by simp [hl], fun v hv' => ?_, rfl, hd3⟩
      · unfold cg__law_group_1 ct__law_group_1 ce__law_group_1
        simp only [dVar, vSlot, dC, dOp2, vOp2, dOpA, vOpA, vAn, An.r, dTst, DL.vBool, vTru, dTru, truth, dAnd, dOr, dNot, dAndV, dOrV, dNotV, dIfE, dNil, dCons, dTup, vTup, dLst, vLst, dSkip, vSeq, dSeq, dIf, dRet, dDrop, vSto, vSet, dSet, vAsg, dAsg, gN, DL.gNil, DL.gCons, gTupD, dFor, vTurn, dUn, gNeg, dMul, vMul, isNew, gAdd, DL.gSub, gII, tt2, cdiv, gFdiv, cmod, gMod, cpow, gPow, gLt, gLe, gGt, gGe, gEq_ii, gNe_ii, dIsN, DL.isNon, dCh, vCh, vCh2, dON, dOS, dSl, vSl, gSubL, dAug, vAug, isFN, vPar, dPar, vM, dM, isL, mApp, mPopAt, mPop, gIdx, vTIdx, isT, dTIdx, gIx, dFn, vFn, ress, gLen, gIsi5, isTy, kn, gAll, gAny, gInt, gAbs, gMax2, gMin2, gSum, gMax1, gMin1, gSorted, gList, gTuple, dR1, dR2, vR1, vR2, dLRg, dTRg, dLenSet, vLenSet, dSeqI, vSeqI, itemsOf, dRng1, dRng2, vRng1, vRng2, dEnum, dZip2, dZip3, vEnum, vZip2, vZip3, dLC, vLC, dCall, vCall, frzM, cSl, cSls, upR, cRes, atsOf, fnD, ownIn_G, ownG_nil, ownG_fz, ownG_no, ownG_own, wipeE, dStep, lcStep, dYes, vFin, vOut, outR, outE, dLend, vLend, lendE, backE, flatR, lend_fzo, back_fzo, lend_fz, lend_no, lend_own1, lend_own0, back_fz, back_no, back_own1, back_own0, flat_ints, flatO_ints, yPlain, yNil, vYSeq, ySeq, vYield, yYield, yFor, vGen, fzE, gnD, noE, vListG, dListG, gAddI, gMulI, dLit, dFmt, vFmt, dJs, dJoin, gStr, dCallB, vCallB, keepOwn, isOwn, res, frz, frzs, flat, O.bind_ok, O.bind_bad, O.bind_exn, List.nodup_cons, List.nodup_nil, List.not_mem_nil, List.mem_cons, List.mem_singleton, not_false_eq_true, and_true, true_and, List.contains_cons, List.contains_nil, Nat.zero_add, List.getElem?_nil, List.getElem?_cons_zero, List.getElem?_cons_succ, List.set_cons_zero, List.set_cons_succ, Option.map_some, Option.map_none, if_true, if_false, Bool.and_true, Bool.true_and, Bool.and_false, Bool.false_and, Bool.or_true, Bool.true_or, Bool.or_false, Bool.false_or, Bool.not_true, Bool.not_false, List.length_cons, List.length_nil, List.append_nil, List.cons_append, List.nil_append, List.replicate_succ, List.replicate_zero, decide_true, decide_false, ↓reduceIte, Int.cast_ofNat_Int, Int.reduceLE, Int.reduceLT, Int.reduceToNat, Int.reduceAdd, Int.reduceSub, Int.reduceMul, Int.reduceNeg, Int.reduceEq, Int.reduceNe, Int.reduceBEq, Int.reduceBNe, Int.reduceGT, Int.reduceGE, ne_eq, Nat.reduceAdd, Nat.reduceLeDiff, Nat.reduceEqDiff, Nat.reduceSub, Nat.reduceMul, Nat.reduceLT, Nat.reduceBEq, String.reduceEq, reduceCtorEq, beq_self_eq_true, List.map_cons, List.map_nil, List.reverse_nil, e3]
      · rcases List.mem_append.mp hv' with w | w
        · exact hv v w
        · rw [List.mem_singleton] at w
          subst w
          by_cases c1 : z + u - 1 < 15
          · rw [if_pos c1]
            by_cases c2 : z + u - 1 > 1
            · rw [if_pos c2]; omega
            · rw [if_neg c2]; omega
          · rw [if_neg c1, if_pos (by omega)]; omega)
  rw [List.length_map, hf.l] at hl hd2
  rw [hacc, hε] at e
  exact ⟨l, d2, e, ⟨hl, hv⟩, hd2⟩
theorem noLs_ints : ∀ l : List Int, noLs (l.map D.int) = true
  | [] => rfl
  | a :: l => by rw [List.map_cons]; unfold noLs; rw [noLs_ints l]; rfl
theorem noL_tI (l : List Int) : noL (tI l) = true := by
  unfold tI noL
  exact noLs_ints l
theorem L_gr (n : Nat) (hn : n ≤ 18) (F S X : D) : ∀ (fuel m : Nat) (d : D) (rs : List (List Int)) (o : Option D), Dk m d → m + 100 * (8 - rs.length) < 100000 → 2 ≤ rs.length → rs.length ≤ 8 → 8 - rs.length < fuel → (∀ r ∈ rs, Sc n r) →
    ∃ (d' : D) (rs' : List (List Int)) (o' : Option D), dWhile wt__law_group_1 wb__law_group_1 fuel [.own d, .fz (.int 2), .fz (.int 8), .fz (.int 18), .fz F, .fz S, .fz X, .own (.lst (rs.map tI)), fzo o, .no] = .ok .nx [.own d', .fz (.int 2), .fz (.int 8), .fz (.int 18), .fz F, .fz S, .fz X, .own (.lst (rs'.map tI)), fzo o', .no] ∧
      2 ≤ rs'.length ∧ rs'.length ≤ 8 ∧ (∀ r ∈ rs', Sc n r) ∧ Dk (m + 100 * (8 - rs.length) + 1) d'
  | 0, m, d, rs, o, _, _, _, _, hf, _ => absurd hf (Nat.not_lt_zero _)
  | fuel + 1, m, d, rs, o, hd, hm, h2, h8, hf, hr => by
    have c0 : ¬ (rs.length : Int) < 2 := by omega
    by_cases hlt : rs.length < 8
    · obtain ⟨v, d1, e1, v0, v1, hd1⟩ := x_pick m d 3 hd (by omega) (by omega) (by omega)
      have c1 : (rs.length : Int) < 8 := by omega
      by_cases hv : 0 < v
      · obtain ⟨y, d2, e2, hy, hd2⟩ := x_one (m + 1) d1 (rs.map tI) hd1 (by omega) (by rw [List.length_map]; omega) (by rw [List.length_map]; omega)
        obtain ⟨r, hrm, rfl⟩ := List.mem_map.mp hy
        obtain ⟨l, d3, e3, sl, hd3⟩ := L_nearG (m + 1 + 1) n d2 r .no (.fz (.int 2)) (.fz (.int 8)) (.fz (.int 18)) (.fz F) (.fz S) (.fz X) (.own (.lst (rs.map tI))) (.fz (tI r)) hd2 (by omega) (hr r hrm) (by omega)
        have hr2 : ∀ q ∈ rs ++ [l], Sc n q := fun q hq => by
          rcases List.mem_append.mp hq with z | z
          · exact hr q z
          · rw [List.mem_singleton.mp z]; exact sl
        obtain ⟨d4, rs', o', e4, q2, q8, qr, hd4⟩ := L_gr n hn F S X fuel (m + 1 + 1 + n) d3 (rs ++ [l]) (some (tI r)) hd3 (by rw [List.length_append, List.length_singleton]; omega) (by rw [List.length_append, List.length_singleton]; omega) (by rw [List.length_append, List.length_singleton]; omega) (by rw [List.length_append, List.length_singleton]; omega) hr2
        rw [List.length_append, List.length_singleton] at hd4
        refine ⟨d4, rs', o', ?_, q2, q8, qr, hd4.le (by omega)⟩
        have hf2 := hd2.flat
        have hno := noL_tI r
        have ha : decide (rs.length < 1000000) = true := decide_eq_true (by omega)
        have hle : r.length ≤ 1000000 := by rw [(hr r hrm).l]; omega
        have st : wb__law_group_1 [.own d1, .fz (.int 2), .fz (.int 8), .fz (.int 18), .fz F, .fz S, .fz X, .own (.lst (rs.map tI)), fzo o, .no] = .ok .nx [.own d3, .fz (.int 2), .fz (.int 8), .fz (.int 18), .fz F, .fz S, .fz X, .own (.lst ((rs ++ [l]).map tI)), fzo (some (tI r)), .no] := by
          unfold wb__law_group_1
          unfold tI at e3 e2 hno ⊢
          simp only [dVar, vSlot, dC, dOp2, vOp2, dOpA, vOpA, vAn, An.r, dTst, DL.vBool, vTru, dTru, truth, dAnd, dOr, dNot, dAndV, dOrV, dNotV, dIfE, dNil, dCons, dTup, vTup, dLst, vLst, dSkip, vSeq, dSeq, dIf, dRet, dDrop, vSto, vSet, dSet, vAsg, dAsg, gN, DL.gNil, DL.gCons, gTupD, dFor, vTurn, dUn, gNeg, dMul, vMul, isNew, gAdd, DL.gSub, gII, tt2, cdiv, gFdiv, cmod, gMod, cpow, gPow, gLt, gLe, gGt, gGe, gEq_ii, gNe_ii, dIsN, DL.isNon, dCh, vCh, vCh2, dON, dOS, dSl, vSl, gSubL, dAug, vAug, isFN, vPar, dPar, vM, dM, isL, mApp, mPopAt, mPop, gIdx, vTIdx, isT, dTIdx, gIx, dFn, vFn, ress, gLen, gIsi5, isTy, kn, gAll, gAny, gInt, gAbs, gMax2, gMin2, gSum, gMax1, gMin1, gSorted, gList, gTuple, dR1, dR2, vR1, vR2, dLRg, dTRg, dLenSet, vLenSet, dSeqI, vSeqI, itemsOf, dRng1, dRng2, vRng1, vRng2, dEnum, dZip2, dZip3, vEnum, vZip2, vZip3, dLC, vLC, dCall, vCall, frzM, cSl, cSls, upR, cRes, atsOf, fnD, ownIn_G, ownG_nil, ownG_fz, ownG_no, ownG_own, wipeE, dStep, lcStep, dYes, vFin, vOut, outR, outE, dLend, vLend, lendE, backE, flatR, lend_fzo, back_fzo, lend_fz, lend_no, lend_own1, lend_own0, back_fz, back_no, back_own1, back_own0, flat_ints, flatO_ints, yPlain, yNil, vYSeq, ySeq, vYield, yYield, yFor, vGen, fzE, gnD, noE, vListG, dListG, gAddI, gMulI, dLit, dFmt, vFmt, dJs, dJoin, gStr, dCallB, vCallB, keepOwn, isOwn, res, frz, frzs, flat, O.bind_ok, O.bind_bad, O.bind_exn, List.nodup_cons, List.nodup_nil, List.not_mem_nil, List.mem_cons, List.mem_singleton, not_false_eq_true, and_true, true_and, List.contains_cons, List.contains_nil, Nat.zero_add, List.getElem?_nil, List.getElem?_cons_zero, List.getElem?_cons_succ, List.set_cons_zero, List.set_cons_succ, Option.map_some, Option.map_none, if_true, if_false, Bool.and_true, Bool.true_and, Bool.and_false, Bool.false_and, Bool.or_true, Bool.true_or, Bool.or_false, Bool.false_or, Bool.not_true, Bool.not_false, List.length_cons, List.length_nil, List.append_nil, List.cons_append, List.nil_append, List.replicate_succ, List.replicate_zero, decide_true, decide_false, ↓reduceIte, Int.cast_ofNat_Int, Int.reduceLE, Int.reduceLT, Int.reduceToNat, Int.reduceAdd, Int.reduceSub, Int.reduceMul, Int.reduceNeg, Int.reduceEq, Int.reduceNe, Int.reduceBEq, Int.reduceBNe, Int.reduceGT, Int.reduceGE, ne_eq, Nat.reduceAdd, Nat.reduceLeDiff, Nat.reduceEqDiff, Nat.reduceSub, Nat.reduceMul, Nat.reduceLT, Nat.reduceBEq, String.reduceEq, reduceCtorEq, beq_self_eq_true, List.map_cons, List.map_nil, List.reverse_nil, e2, hf2, hno, dLendT, vLendT, e3, hle, List.length_map, ha, List.map_append, fzo]
        rw [dWhile_succ]
        unfold wt__law_group_1
        simp only [dVar, vSlot, dC, dOp2, vOp2, dOpA, vOpA, vAn, An.r, dTst, DL.vBool, vTru, dTru, truth, dAnd, dOr, dNot, dAndV, dOrV, dNotV, dIfE, dNil, dCons, dTup, vTup, dLst, vLst, dSkip, vSeq, dSeq, dIf, dRet, dDrop, vSto, vSet, dSet, vAsg, dAsg, gN, DL.gNil, DL.gCons, gTupD, dFor, vTurn, dUn, gNeg, dMul, vMul, isNew, gAdd, DL.gSub, gII, tt2, cdiv, gFdiv, cmod, gMod, cpow, gPow, gLt, gLe, gGt, gGe, gEq_ii, gNe_ii, dIsN, DL.isNon, dCh, vCh, vCh2, dON, dOS, dSl, vSl, gSubL, dAug, vAug, isFN, vPar, dPar, vM, dM, isL, mApp, mPopAt, mPop, gIdx, vTIdx, isT, dTIdx, gIx, dFn, vFn, ress, gLen, gIsi5, isTy, kn, gAll, gAny, gInt, gAbs, gMax2, gMin2, gSum, gMax1, gMin1, gSorted, gList, gTuple, dR1, dR2, vR1, vR2, dLRg, dTRg, dLenSet, vLenSet, dSeqI, vSeqI, itemsOf, dRng1, dRng2, vRng1, vRng2, dEnum, dZip2, dZip3, vEnum, vZip2, vZip3, dLC, vLC, dCall, vCall, frzM, cSl, cSls, upR, cRes, atsOf, fnD, ownIn_G, ownG_nil, ownG_fz, ownG_no, ownG_own, wipeE, dStep, lcStep, dYes, vFin, vOut, outR, outE, dLend, vLend, lendE, backE, flatR, lend_fzo, back_fzo, lend_fz, lend_no, lend_own1, lend_own0, back_fz, back_no, back_own1, back_own0, flat_ints, flatO_ints, yPlain, yNil, vYSeq, ySeq, vYield, yYield, yFor, vGen, fzE, gnD, noE, vListG, dListG, gAddI, gMulI, dLit, dFmt, vFmt, dJs, dJoin, gStr, dCallB, vCallB, keepOwn, isOwn, res, frz, frzs, flat, O.bind_ok, O.bind_bad, O.bind_exn, List.nodup_cons, List.nodup_nil, List.not_mem_nil, List.mem_cons, List.mem_singleton, not_false_eq_true, and_true, true_and, List.contains_cons, List.contains_nil, Nat.zero_add, List.getElem?_nil, List.getElem?_cons_zero, List.getElem?_cons_succ, List.set_cons_zero, List.set_cons_succ, Option.map_some, Option.map_none, if_true, if_false, Bool.and_true, Bool.true_and, Bool.and_false, Bool.false_and, Bool.or_true, Bool.true_or, Bool.or_false, Bool.false_or, Bool.not_true, Bool.not_false, List.length_cons, List.length_nil, List.append_nil, List.cons_append, List.nil_append, List.replicate_succ, List.replicate_zero, decide_true, decide_false, ↓reduceIte, Int.cast_ofNat_Int, Int.reduceLE, Int.reduceLT, Int.reduceToNat, Int.reduceAdd, Int.reduceSub, Int.reduceMul, Int.reduceNeg, Int.reduceEq, Int.reduceNe, Int.reduceBEq, Int.reduceBNe, Int.reduceGT, Int.reduceGE, ne_eq, Nat.reduceAdd, Nat.reduceLeDiff, Nat.reduceEqDiff, Nat.reduceSub, Nat.reduceMul, Nat.reduceLT, Nat.reduceBEq, String.reduceEq, reduceCtorEq, beq_self_eq_true, List.map_cons, List.map_nil, List.reverse_nil, List.length_map, c0, c1, e1, hv, st]
        exact e4
      · refine ⟨d1, rs, o, ?_, h2, h8, hr, hd1.le (by omega)⟩
        rw [dWhile_succ]
        unfold wt__law_group_1
        simp only [dVar, vSlot, dC, dOp2, vOp2, dOpA, vOpA, vAn, An.r, dTst, DL.vBool, vTru, dTru, truth, dAnd, dOr, dNot, dAndV, dOrV, dNotV, dIfE, dNil, dCons, dTup, vTup, dLst, vLst, dSkip, vSeq, dSeq, dIf, dRet, dDrop, vSto, vSet, dSet, vAsg, dAsg, gN, DL.gNil, DL.gCons, gTupD, dFor, vTurn, dUn, gNeg, dMul, vMul, isNew, gAdd, DL.gSub, gII, tt2, cdiv, gFdiv, cmod, gMod, cpow, gPow, gLt, gLe, gGt, gGe, gEq_ii, gNe_ii, dIsN, DL.isNon, dCh, vCh, vCh2, dON, dOS, dSl, vSl, gSubL, dAug, vAug, isFN, vPar, dPar, vM, dM, isL, mApp, mPopAt, mPop, gIdx, vTIdx, isT, dTIdx, gIx, dFn, vFn, ress, gLen, gIsi5, isTy, kn, gAll, gAny, gInt, gAbs, gMax2, gMin2, gSum, gMax1, gMin1, gSorted, gList, gTuple, dR1, dR2, vR1, vR2, dLRg, dTRg, dLenSet, vLenSet, dSeqI, vSeqI, itemsOf, dRng1, dRng2, vRng1, vRng2, dEnum, dZip2, dZip3, vEnum, vZip2, vZip3, dLC, vLC, dCall, vCall, frzM, cSl, cSls, upR, cRes, atsOf, fnD, ownIn_G, ownG_nil, ownG_fz, ownG_no, ownG_own, wipeE, dStep, lcStep, dYes, vFin, vOut, outR, outE, dLend, vLend, lendE, backE, flatR, lend_fzo, back_fzo, lend_fz, lend_no, lend_own1, lend_own0, back_fz, back_no, back_own1, back_own0, flat_ints, flatO_ints, yPlain, yNil, vYSeq, ySeq, vYield, yYield, yFor, vGen, fzE, gnD, noE, vListG, dListG, gAddI, gMulI, dLit, dFmt, vFmt, dJs, dJoin, gStr, dCallB, vCallB, keepOwn, isOwn, res, frz, frzs, flat, O.bind_ok, O.bind_bad, O.bind_exn, List.nodup_cons, List.nodup_nil, List.not_mem_nil, List.mem_cons, List.mem_singleton, not_false_eq_true, and_true, true_and, List.contains_cons, List.contains_nil, Nat.zero_add, List.getElem?_nil, List.getElem?_cons_zero, List.getElem?_cons_succ, List.set_cons_zero, List.set_cons_succ, Option.map_some, Option.map_none, if_true, if_false, Bool.and_true, Bool.true_and, Bool.and_false, Bool.false_and, Bool.or_true, Bool.true_or, Bool.or_false, Bool.false_or, Bool.not_true, Bool.not_false, List.length_cons, List.length_nil, List.append_nil, List.cons_append, List.nil_append, List.replicate_succ, List.replicate_zero, decide_true, decide_false, ↓reduceIte, Int.cast_ofNat_Int, Int.reduceLE, Int.reduceLT, Int.reduceToNat, Int.reduceAdd, Int.reduceSub, Int.reduceMul, Int.reduceNeg, Int.reduceEq, Int.reduceNe, Int.reduceBEq, Int.reduceBNe, Int.reduceGT, Int.reduceGE, ne_eq, Nat.reduceAdd, Nat.reduceLeDiff, Nat.reduceEqDiff, Nat.reduceSub, Nat.reduceMul, Nat.reduceLT, Nat.reduceBEq, String.reduceEq, reduceCtorEq, beq_self_eq_true, List.map_cons, List.map_nil, List.reverse_nil, List.length_map, c0, c1, e1, hv, Bool.false_eq_true]
    · have c1 : ¬ (rs.length : Int) < 8 := by omega
      refine ⟨d, rs, o, ?_, h2, h8, hr, hd.le (by omega)⟩
      rw [dWhile_succ]
      unfold wt__law_group_1
      simp only [dVar, vSlot, dC, dOp2, vOp2, dOpA, vOpA, vAn, An.r, dTst, DL.vBool, vTru, dTru, truth, dAnd, dOr, dNot, dAndV, dOrV, dNotV, dIfE, dNil, dCons, dTup, vTup, dLst, vLst, dSkip, vSeq, dSeq, dIf, dRet, dDrop, vSto, vSet, dSet, vAsg, dAsg, gN, DL.gNil, DL.gCons, gTupD, dFor, vTurn, dUn, gNeg, dMul, vMul, isNew, gAdd, DL.gSub, gII, tt2, cdiv, gFdiv, cmod, gMod, cpow, gPow, gLt, gLe, gGt, gGe, gEq_ii, gNe_ii, dIsN, DL.isNon, dCh, vCh, vCh2, dON, dOS, dSl, vSl, gSubL, dAug, vAug, isFN, vPar, dPar, vM, dM, isL, mApp, mPopAt, mPop, gIdx, vTIdx, isT, dTIdx, gIx, dFn, vFn, ress, gLen, gIsi5, isTy, kn, gAll, gAny, gInt, gAbs, gMax2, gMin2, gSum, gMax1, gMin1, gSorted, gList, gTuple, dR1, dR2, vR1, vR2, dLRg, dTRg, dLenSet, vLenSet, dSeqI, vSeqI, itemsOf, dRng1, dRng2, vRng1, vRng2, dEnum, dZip2, dZip3, vEnum, vZip2, vZip3, dLC, vLC, dCall, vCall, frzM, cSl, cSls, upR, cRes, atsOf, fnD, ownIn_G, ownG_nil, ownG_fz, ownG_no, ownG_own, wipeE, dStep, lcStep, dYes, vFin, vOut, outR, outE, dLend, vLend, lendE, backE, flatR, lend_fzo, back_fzo, lend_fz, lend_no, lend_own1, lend_own0, back_fz, back_no, back_own1, back_own0, flat_ints, flatO_ints, yPlain, yNil, vYSeq, ySeq, vYield, yYield, yFor, vGen, fzE, gnD, noE, vListG, dListG, gAddI, gMulI, dLit, dFmt, vFmt, dJs, dJoin, gStr, dCallB, vCallB, keepOwn, isOwn, res, frz, frzs, flat, O.bind_ok, O.bind_bad, O.bind_exn, List.nodup_cons, List.nodup_nil, List.not_mem_nil, List.mem_cons, List.mem_singleton, not_false_eq_true, and_true, true_and, List.contains_cons, List.contains_nil, Nat.zero_add, List.getElem?_nil, List.getElem?_cons_zero, List.getElem?_cons_succ, List.set_cons_zero, List.set_cons_succ, Option.map_some, Option.map_none, if_true, if_false, Bool.and_true, Bool.true_and, Bool.and_false, Bool.false_and, Bool.or_true, Bool.true_or, Bool.or_false, Bool.false_or, Bool.not_true, Bool.not_false, List.length_cons, List.length_nil, List.append_nil, List.cons_append, List.nil_append, List.replicate_succ, List.replicate_zero, decide_true, decide_false, ↓reduceIte, Int.cast_ofNat_Int, Int.reduceLE, Int.reduceLT, Int.reduceToNat, Int.reduceAdd, Int.reduceSub, Int.reduceMul, Int.reduceNeg, Int.reduceEq, Int.reduceNe, Int.reduceBEq, Int.reduceBNe, Int.reduceGT, Int.reduceGE, ne_eq, Nat.reduceAdd, Nat.reduceLeDiff, Nat.reduceEqDiff, Nat.reduceSub, Nat.reduceMul, Nat.reduceLT, Nat.reduceBEq, String.reduceEq, reduceCtorEq, beq_self_eq_true, List.map_cons, List.map_nil, List.reverse_nil, List.length_map, c0, c1, Bool.false_eq_true]
theorem x_group (m : Nat) (d : D) (hd : Dk m d) (hm : m < 10000) : ∃ (n p : Nat) (rs : List (List Int)) (x : List Int) (d' : D), φ__law_group [.own d, .fz (.int 2), .fz (.int 8), .fz (.int 18)] = .ok (.fz (gD rs x)) [.own d', .fz (.int 2), .fz (.int 8), .fz (.int 18)] ∧ VG n p rs x ∧ Dk (m + 2000) d' := by
  obtain ⟨n, f, s, x, d1, e1, n1, n2, vm, hd1⟩ := x_match m 1 18 d hd (by omega) (by omega) (by omega) (by omega)
  have e1 : φ__law_match [.own d, .fz (.int 1), .fz (.int 18)] = .ok (.fz (mD f s x)) [.own d1, .fz (.int 1), .fz (.int 18)] := e1
  obtain ⟨d2, rs, o', e2, q2, q8, qr, hd2⟩ := L_gr n n2 (tI f) (tI s) (tI x) 1000 (m + 200) d1 [f, s] none hd1 (by simp only [List.length_cons, List.length_nil]; omega) (by simp) (by simp) (by simp) (fun r hr => by
    rcases List.mem_cons.mp hr with z | z
    · rw [z]; exact ⟨vm.lf, vm.rf⟩
    · rw [List.mem_singleton.mp z]; exact ⟨vm.ls, vm.rs⟩)
  refine ⟨n, rs.length, rs, x, d2, ?_, ⟨n1, n2, q2, q8, rfl, fun r hr => ⟨(qr r hr).l, (qr r hr).r⟩, vm.pm⟩, hd2.le (by simp only [List.length_cons, List.length_nil]; omega)⟩
  have e2 : dWhile wt__law_group_1 wb__law_group_1 1000 [.own d1, .fz (.int 2), .fz (.int 8), .fz (.int 18), .fz (tI f), .fz (tI s), .fz (tI x), .own (.lst [tI f, tI s]), .no, .no] = _ := e2
  unfold φ__law_group gD
  unfold mD at e1
  simp only [dVar, vSlot, dC, dOp2, vOp2, dOpA, vOpA, vAn, An.r, dTst, DL.vBool, vTru, dTru, truth, dAnd, dOr, dNot, dAndV, dOrV, dNotV, dIfE, dNil, dCons, dTup, vTup, dLst, vLst, dSkip, vSeq, dSeq, dIf, dRet, dDrop, vSto, vSet, dSet, vAsg, dAsg, gN, DL.gNil, DL.gCons, gTupD, dFor, vTurn, dUn, gNeg, dMul, vMul, isNew, gAdd, DL.gSub, gII, tt2, cdiv, gFdiv, cmod, gMod, cpow, gPow, gLt, gLe, gGt, gGe, gEq_ii, gNe_ii, dIsN, DL.isNon, dCh, vCh, vCh2, dON, dOS, dSl, vSl, gSubL, dAug, vAug, isFN, vPar, dPar, vM, dM, isL, mApp, mPopAt, mPop, gIdx, vTIdx, isT, dTIdx, gIx, dFn, vFn, ress, gLen, gIsi5, isTy, kn, gAll, gAny, gInt, gAbs, gMax2, gMin2, gSum, gMax1, gMin1, gSorted, gList, gTuple, dR1, dR2, vR1, vR2, dLRg, dTRg, dLenSet, vLenSet, dSeqI, vSeqI, itemsOf, dRng1, dRng2, vRng1, vRng2, dEnum, dZip2, dZip3, vEnum, vZip2, vZip3, dLC, vLC, dCall, vCall, frzM, cSl, cSls, upR, cRes, atsOf, fnD, ownIn_G, ownG_nil, ownG_fz, ownG_no, ownG_own, wipeE, dStep, lcStep, dYes, vFin, vOut, outR, outE, dLend, vLend, lendE, backE, flatR, lend_fzo, back_fzo, lend_fz, lend_no, lend_own1, lend_own0, back_fz, back_no, back_own1, back_own0, flat_ints, flatO_ints, yPlain, yNil, vYSeq, ySeq, vYield, yYield, yFor, vGen, fzE, gnD, noE, vListG, dListG, gAddI, gMulI, dLit, dFmt, vFmt, dJs, dJoin, gStr, dCallB, vCallB, keepOwn, isOwn, res, frz, frzs, flat, O.bind_ok, O.bind_bad, O.bind_exn, List.nodup_cons, List.nodup_nil, List.not_mem_nil, List.mem_cons, List.mem_singleton, not_false_eq_true, and_true, true_and, List.contains_cons, List.contains_nil, Nat.zero_add, List.getElem?_nil, List.getElem?_cons_zero, List.getElem?_cons_succ, List.set_cons_zero, List.set_cons_succ, Option.map_some, Option.map_none, if_true, if_false, Bool.and_true, Bool.true_and, Bool.and_false, Bool.false_and, Bool.or_true, Bool.true_or, Bool.or_false, Bool.false_or, Bool.not_true, Bool.not_false, List.length_cons, List.length_nil, List.append_nil, List.cons_append, List.nil_append, List.replicate_succ, List.replicate_zero, decide_true, decide_false, ↓reduceIte, Int.cast_ofNat_Int, Int.reduceLE, Int.reduceLT, Int.reduceToNat, Int.reduceAdd, Int.reduceSub, Int.reduceMul, Int.reduceNeg, Int.reduceEq, Int.reduceNe, Int.reduceBEq, Int.reduceBNe, Int.reduceGT, Int.reduceGE, ne_eq, Nat.reduceAdd, Nat.reduceLeDiff, Nat.reduceEqDiff, Nat.reduceSub, Nat.reduceMul, Nat.reduceLT, Nat.reduceBEq, String.reduceEq, reduceCtorEq, beq_self_eq_true, List.map_cons, List.map_nil, List.reverse_nil, e1, e2]

section
variable {n p : Nat} {rs : List (List Int)} {x : List Int}
theorem L_shares (m : Nat) (d : D) (S0 S1 S3 S4 S5 S6 S7 S8 S9 S10 S11 S12 S13 S14 S16 S17 : Sl) (h : Dk m d) (hm : m + 2 * rs.length < 1000000) :
    ∃ (l : List Int) (d2 : D), lcLoop cg_law_1 ct_law_1 ce_law_1 [15] (rs.map tI) [S0, S1, .own d, S3, S4, S5, S6, S7, S8, S9, S10, S11, S12, S13, S14, .no, S16, S17] [] = .ok (l.map .int) [S0, S1, .own d2, S3, S4, S5, S6, S7, S8, S9, S10, S11, S12, S13, S14, .no, S16, S17] ∧ l.length = rs.length ∧ (∀ v ∈ l, -30 ≤ v ∧ v ≤ 29) ∧ Dk (m + 2 * rs.length) d2 := by
  obtain ⟨acc, ε', e, l, d2, hacc, hl, hv, hε, hd2⟩ := lcLoop_from (gg := cg_law_1) (ft := ct_law_1) (fe := ce_law_1) (vs := [15]) (ds := rs.map tI) (ε := [S0, S1, .own d, S3, S4, S5, S6, S7, S8, S9, S10, S11, S12, S13, S14, .no, S16, S17])
    (fun i acc ε => ∃ (l : List Int) (d2 : D), acc = l.map .int ∧ l.length = i ∧ (∀ v ∈ l, -30 ≤ v ∧ v ≤ 29) ∧ ε = [S0, S1, .own d2, S3, S4, S5, S6, S7, S8, S9, S10, S11, S12, S13, S14, .no, S16, S17] ∧ Dk (m + 2 * i) d2)
    ⟨[], d, rfl, rfl, fun v hv => (by simp at hv), rfl, h⟩ (fun i y ε acc hy ⟨l, d2, hacc, hl, hv, hε, hd2⟩ => by
      subst hacc hε
      obtain ⟨hi, ey⟩ := List.getElem?_eq_some_iff.mp hy
      rw [List.length_map] at hi
      obtain ⟨u, d3, e3, u0, u1, hd3⟩ := x_pick (m + 2 * i) d2 30 hd2 (by omega) (by omega) (by omega)
      obtain ⟨z, d4, e4, hz, hd4⟩ := x_one (m + 2 * i + 1) d3 [.int 0, .int 10, .int 30] hd3 (by omega) (by decide) (by decide)
      obtain ⟨w, rfl, w0, w1⟩ : ∃ w : Int, z = .int w ∧ 0 ≤ w ∧ w ≤ 30 := by
        rcases List.mem_cons.mp hz with r | hz
        · exact ⟨0, r, by omega, by omega⟩
        · rcases List.mem_cons.mp hz with r | hz
          · exact ⟨10, r, by omega, by omega⟩
          · exact ⟨30, List.mem_singleton.mp hz, by omega, by omega⟩
      refine ⟨some (.int (u - w)), [S0, S1, .own d4, S3, S4, S5, S6, S7, S8, S9, S10, S11, S12, S13, S14, .no, S16, S17], ?_, l ++ [u - w], d4, by simp, by simp [hl], fun v hv' => ?_, rfl, hd4.le (by omega)⟩
      · unfold cg_law_1 ct_law_1 ce_law_1
        simp only [dVar, vSlot, dC, dOp2, vOp2, dOpA, vOpA, vAn, An.r, dTst, DL.vBool, vTru, dTru, truth, dAnd, dOr, dNot, dAndV, dOrV, dNotV, dIfE, dNil, dCons, dTup, vTup, dLst, vLst, dSkip, vSeq, dSeq, dIf, dRet, dDrop, vSto, vSet, dSet, vAsg, dAsg, gN, DL.gNil, DL.gCons, gTupD, dFor, vTurn, dUn, gNeg, dMul, vMul, isNew, gAdd, DL.gSub, gII, tt2, cdiv, gFdiv, cmod, gMod, cpow, gPow, gLt, gLe, gGt, gGe, gEq_ii, gNe_ii, dIsN, DL.isNon, dCh, vCh, vCh2, dON, dOS, dSl, vSl, gSubL, dAug, vAug, isFN, vPar, dPar, vM, dM, isL, mApp, mPopAt, mPop, gIdx, vTIdx, isT, dTIdx, gIx, dFn, vFn, ress, gLen, gIsi5, isTy, kn, gAll, gAny, gInt, gAbs, gMax2, gMin2, gSum, gMax1, gMin1, gSorted, gList, gTuple, dR1, dR2, vR1, vR2, dLRg, dTRg, dLenSet, vLenSet, dSeqI, vSeqI, itemsOf, dRng1, dRng2, vRng1, vRng2, dEnum, dZip2, dZip3, vEnum, vZip2, vZip3, dLC, vLC, dCall, vCall, frzM, cSl, cSls, upR, cRes, atsOf, fnD, ownIn_G, ownG_nil, ownG_fz, ownG_no, ownG_own, wipeE, dStep, lcStep, dYes, vFin, vOut, outR, outE, dLend, vLend, lendE, backE, flatR, lend_fzo, back_fzo, lend_fz, lend_no, lend_own1, lend_own0, back_fz, back_no, back_own1, back_own0, flat_ints, flatO_ints, yPlain, yNil, vYSeq, ySeq, vYield, yYield, yFor, vGen, fzE, gnD, noE, vListG, dListG, gAddI, gMulI, dLit, dFmt, vFmt, dJs, dJoin, gStr, dCallB, vCallB, keepOwn, isOwn, res, frz, frzs, flat, O.bind_ok, O.bind_bad, O.bind_exn, List.nodup_cons, List.nodup_nil, List.not_mem_nil, List.mem_cons, List.mem_singleton, not_false_eq_true, and_true, true_and, List.contains_cons, List.contains_nil, Nat.zero_add, List.getElem?_nil, List.getElem?_cons_zero, List.getElem?_cons_succ, List.set_cons_zero, List.set_cons_succ, Option.map_some, Option.map_none, if_true, if_false, Bool.and_true, Bool.true_and, Bool.and_false, Bool.false_and, Bool.or_true, Bool.true_or, Bool.or_false, Bool.false_or, Bool.not_true, Bool.not_false, List.length_cons, List.length_nil, List.append_nil, List.cons_append, List.nil_append, List.replicate_succ, List.replicate_zero, decide_true, decide_false, ↓reduceIte, Int.cast_ofNat_Int, Int.reduceLE, Int.reduceLT, Int.reduceToNat, Int.reduceAdd, Int.reduceSub, Int.reduceMul, Int.reduceNeg, Int.reduceEq, Int.reduceNe, Int.reduceBEq, Int.reduceBNe, Int.reduceGT, Int.reduceGE, ne_eq, Nat.reduceAdd, Nat.reduceLeDiff, Nat.reduceEqDiff, Nat.reduceSub, Nat.reduceMul, Nat.reduceLT, Nat.reduceBEq, String.reduceEq, reduceCtorEq, beq_self_eq_true, List.map_cons, List.map_nil, List.reverse_nil, e3, e4]
      · rcases List.mem_append.mp hv' with q | q
        · exact hv v q
        · rw [List.mem_singleton] at q
          subst q
          omega)
  rw [List.length_map] at hl hd2
  rw [hacc, hε] at e
  exact ⟨l, d2, e, hl, hv, hd2⟩
def rsP (rs : List (List Int)) (hs : List Int) (i : Nat) : D := .tup [tI (rwO rs i), .int (hO hs i)]
theorem zip_rows {rs : List (List Int)} {hs : List Int} {p : Nat} (h1 : rs.length = p) (h2 : hs.length = p) : zip2D (rs.map tI) (hs.map D.int) = (List.range p).map (rsP rs hs) := by
  unfold zip2D
  apply List.ext_getElem?
  intro j
  rw [List.getElem?_zipWith, List.getElem?_map, List.getElem?_map, List.getElem?_map]
  by_cases hj : j < p
  · rw [List.getElem?_range hj, rwO_get (by omega), List.getElem?_eq_getElem (l := hs) (by omega)]
    show some _ = some _
    unfold rsP hO
    rw [List.getD_eq_getElem?_getD, List.getElem?_eq_getElem (l := hs) (by omega)]
    rfl
  · rw [List.getElem?_eq_none (l := rs) (by omega), List.getElem?_eq_none (l := List.range p) (by rw [List.length_range]; omega)]
    rfl
theorem hO_bd {hs : List Int} {a b : Int} (h : ∀ v ∈ hs, a ≤ v ∧ v ≤ b) {i : Nat} (hi : i < hs.length) : a ≤ hO hs i ∧ hO hs i ≤ b := by
  refine h _ ?_
  unfold hO
  rw [List.getD_eq_getElem?_getD, List.getElem?_eq_getElem hi]
  exact List.getElem_mem hi
theorem x_due (g : VG n p rs x) (hs : List Int) (hl : hs.length = p) (hb : ∀ v ∈ hs, -30 ≤ v ∧ v ≤ 29) (i : Nat) (hi : i < p) (ds : List D) (hd : ds.length ≤ 100) (S0 S1 S2 S3 s8 s9 S10 S11 S12 S13 S14 S15 : Sl) :
    dStep g_law_1 b_law_1 (rsP rs hs i) [S0, S1, S2, S3, .fz (.tup (rs.map tI)), .fz (tI x), .fz (tI hs), .own (.lst ds), s8, s9, S10, S11, S12, S13, S14, S15, .no, .no] = .ok .nx [S0, S1, S2, S3, .fz (.tup (rs.map tI)), .fz (tI x), .fz (tI hs), .own (.lst (ds ++ [lI (rsT n rs x p (hO hs) i)])), .fz (tI (rwO rs i)), .fz (.int (hO hs i)), S10, S11, S12, S13, S14, S15, .no, .no] := by
  have p8 := g.p8
  have l1 := lcLoop_map (gg := gTupD 2 (gCons (gN 16) (gCons (gN 17) gNil))) (ft := dYes) (fe := dCall φ__law_score [false, false] (dCons (dTup (dCons (dVar 8) (dCons (dVar 16) (dCons (dVar 5) dNil)))) (dCons (dOp2 gSub (dVar 9) (dVar 17)) dNil))) (vs := [16, 17]) (rsP rs hs) (fun j => .int (RS n rs x i j (hO hs i - hO hs j))) (List.range p) [S0, S1, S2, S3, .fz (.tup (rs.map tI)), .fz (tI x), .fz (tI hs), .own (.lst ds), .fz (tI (rwO rs i)), .fz (.int (hO hs i)), S10, S11, S12, S13, S14, S15, .no, .no] [] fun j hj => by
    have hj := List.mem_range.mp hj
    have b1 := hO_bd hb (i := i) (by omega)
    have b2 := hO_bd hb (i := j) (by omega)
    have e2 := x_score (g.vm hi hj) (hO hs i - hO hs j) (by omega)
    unfold RS rsP
    unfold mD at e2
    simp only [dVar, vSlot, dC, dOp2, vOp2, dOpA, vOpA, vAn, An.r, dTst, DL.vBool, vTru, dTru, truth, dAnd, dOr, dNot, dAndV, dOrV, dNotV, dIfE, dNil, dCons, dTup, vTup, dLst, vLst, dSkip, vSeq, dSeq, dIf, dRet, dDrop, vSto, vSet, dSet, vAsg, dAsg, gN, DL.gNil, DL.gCons, gTupD, dFor, vTurn, dUn, gNeg, dMul, vMul, isNew, gAdd, DL.gSub, gII, tt2, cdiv, gFdiv, cmod, gMod, cpow, gPow, gLt, gLe, gGt, gGe, gEq_ii, gNe_ii, dIsN, DL.isNon, dCh, vCh, vCh2, dON, dOS, dSl, vSl, gSubL, dAug, vAug, isFN, vPar, dPar, vM, dM, isL, mApp, mPopAt, mPop, gIdx, vTIdx, isT, dTIdx, gIx, dFn, vFn, ress, gLen, gIsi5, isTy, kn, gAll, gAny, gInt, gAbs, gMax2, gMin2, gSum, gMax1, gMin1, gSorted, gList, gTuple, dR1, dR2, vR1, vR2, dLRg, dTRg, dLenSet, vLenSet, dSeqI, vSeqI, itemsOf, dRng1, dRng2, vRng1, vRng2, dEnum, dZip2, dZip3, vEnum, vZip2, vZip3, dLC, vLC, dCall, vCall, frzM, cSl, cSls, upR, cRes, atsOf, fnD, ownIn_G, ownG_nil, ownG_fz, ownG_no, ownG_own, wipeE, dStep, lcStep, dYes, vFin, vOut, outR, outE, dLend, vLend, lendE, backE, flatR, lend_fzo, back_fzo, lend_fz, lend_no, lend_own1, lend_own0, back_fz, back_no, back_own1, back_own0, flat_ints, flatO_ints, yPlain, yNil, vYSeq, ySeq, vYield, yYield, yFor, vGen, fzE, gnD, noE, vListG, dListG, gAddI, gMulI, dLit, dFmt, vFmt, dJs, dJoin, gStr, dCallB, vCallB, keepOwn, isOwn, res, frz, frzs, flat, O.bind_ok, O.bind_bad, O.bind_exn, List.nodup_cons, List.nodup_nil, List.not_mem_nil, List.mem_cons, List.mem_singleton, not_false_eq_true, and_true, true_and, List.contains_cons, List.contains_nil, Nat.zero_add, List.getElem?_nil, List.getElem?_cons_zero, List.getElem?_cons_succ, List.set_cons_zero, List.set_cons_succ, Option.map_some, Option.map_none, if_true, if_false, Bool.and_true, Bool.true_and, Bool.and_false, Bool.false_and, Bool.or_true, Bool.true_or, Bool.or_false, Bool.false_or, Bool.not_true, Bool.not_false, List.length_cons, List.length_nil, List.append_nil, List.cons_append, List.nil_append, List.replicate_succ, List.replicate_zero, decide_true, decide_false, ↓reduceIte, Int.cast_ofNat_Int, Int.reduceLE, Int.reduceLT, Int.reduceToNat, Int.reduceAdd, Int.reduceSub, Int.reduceMul, Int.reduceNeg, Int.reduceEq, Int.reduceNe, Int.reduceBEq, Int.reduceBNe, Int.reduceGT, Int.reduceGE, ne_eq, Nat.reduceAdd, Nat.reduceLeDiff, Nat.reduceEqDiff, Nat.reduceSub, Nat.reduceMul, Nat.reduceLT, Nat.reduceBEq, String.reduceEq, reduceCtorEq, beq_self_eq_true, List.map_cons, List.map_nil, List.reverse_nil, e2]
  have hmap : (List.range p).map (fun j => D.int (RS n rs x i j (hO hs i - hO hs j))) = (rsT n rs x p (hO hs) i).map D.int := by unfold rsT; rw [List.map_map]; rfl
  rw [hmap] at l1
  have hz := zip_rows (rs := rs) g.lp hl
  have hzl : ((List.range p).map (rsP rs hs)).length ≤ 1000000 := by rw [List.length_map, List.length_range]; omega
  have hr1 : rs.length ≤ 1000000 := by rw [g.lp]; omega
  have hr2 : hs.length ≤ 1000000 := by omega
  have hp : p ≤ 1000000 := by omega
  have hd2 : decide (ds.length < 1000000) = true := decide_eq_true (by omega)
  have ep : rsP rs hs i = .tup [tI (rwO rs i), .int (hO hs i)] := rfl
  simp only [DL.gSub] at l1
  unfold g_law_1 b_law_1 lI
  unfold tI at l1 ep ⊢
  unfold tI at hz hzl
  rw [ep]
  simp only [dVar, vSlot, dC, dOp2, vOp2, dOpA, vOpA, vAn, An.r, dTst, DL.vBool, vTru, dTru, truth, dAnd, dOr, dNot, dAndV, dOrV, dNotV, dIfE, dNil, dCons, dTup, vTup, dLst, vLst, dSkip, vSeq, dSeq, dIf, dRet, dDrop, vSto, vSet, dSet, vAsg, dAsg, gN, DL.gNil, DL.gCons, gTupD, dFor, vTurn, dUn, gNeg, dMul, vMul, isNew, gAdd, DL.gSub, gII, tt2, cdiv, gFdiv, cmod, gMod, cpow, gPow, gLt, gLe, gGt, gGe, gEq_ii, gNe_ii, dIsN, DL.isNon, dCh, vCh, vCh2, dON, dOS, dSl, vSl, gSubL, dAug, vAug, isFN, vPar, dPar, vM, dM, isL, mApp, mPopAt, mPop, gIdx, vTIdx, isT, dTIdx, gIx, dFn, vFn, ress, gLen, gIsi5, isTy, kn, gAll, gAny, gInt, gAbs, gMax2, gMin2, gSum, gMax1, gMin1, gSorted, gList, gTuple, dR1, dR2, vR1, vR2, dLRg, dTRg, dLenSet, vLenSet, dSeqI, vSeqI, itemsOf, dRng1, dRng2, vRng1, vRng2, dEnum, dZip2, dZip3, vEnum, vZip2, vZip3, dLC, vLC, dCall, vCall, frzM, cSl, cSls, upR, cRes, atsOf, fnD, ownIn_G, ownG_nil, ownG_fz, ownG_no, ownG_own, wipeE, dStep, lcStep, dYes, vFin, vOut, outR, outE, dLend, vLend, lendE, backE, flatR, lend_fzo, back_fzo, lend_fz, lend_no, lend_own1, lend_own0, back_fz, back_no, back_own1, back_own0, flat_ints, flatO_ints, yPlain, yNil, vYSeq, ySeq, vYield, yYield, yFor, vGen, fzE, gnD, noE, vListG, dListG, gAddI, gMulI, dLit, dFmt, vFmt, dJs, dJoin, gStr, dCallB, vCallB, keepOwn, isOwn, res, frz, frzs, flat, O.bind_ok, O.bind_bad, O.bind_exn, List.nodup_cons, List.nodup_nil, List.not_mem_nil, List.mem_cons, List.mem_singleton, not_false_eq_true, and_true, true_and, List.contains_cons, List.contains_nil, Nat.zero_add, List.getElem?_nil, List.getElem?_cons_zero, List.getElem?_cons_succ, List.set_cons_zero, List.set_cons_succ, Option.map_some, Option.map_none, if_true, if_false, Bool.and_true, Bool.true_and, Bool.and_false, Bool.false_and, Bool.or_true, Bool.true_or, Bool.or_false, Bool.false_or, Bool.not_true, Bool.not_false, List.length_cons, List.length_nil, List.append_nil, List.cons_append, List.nil_append, List.replicate_succ, List.replicate_zero, decide_true, decide_false, ↓reduceIte, Int.cast_ofNat_Int, Int.reduceLE, Int.reduceLT, Int.reduceToNat, Int.reduceAdd, Int.reduceSub, Int.reduceMul, Int.reduceNeg, Int.reduceEq, Int.reduceNe, Int.reduceBEq, Int.reduceBNe, Int.reduceGT, Int.reduceGE, ne_eq, Nat.reduceAdd, Nat.reduceLeDiff, Nat.reduceEqDiff, Nat.reduceSub, Nat.reduceMul, Nat.reduceLT, Nat.reduceBEq, String.reduceEq, reduceCtorEq, beq_self_eq_true, List.map_cons, List.map_nil, List.reverse_nil, hz, hzl, l1, hd2, hr1, hr2, List.length_map, hp, List.length_range]
end

def encW (q : Nat × Nat × Int) : D := .tup [.int (q.1 : Nat), .int (q.2.1 : Nat), .int q.2.2]
def prW (q : Nat × Nat × Int) : D := .tup [.int (q.1 : Nat), .int (q.2.1 : Nat)]
def hvP (p : Nat) : List (Nat × Nat × Int) := (List.range p).flatMap fun i => (List.range' (i + 1) (p - (i + 1))).map fun j => (i, j, 0)
def isF : Option D → Bool
  | some (.bl false) => true
  | _ => false
theorem isF_eq {o : Option D} (h : isF o = true) : o = some (.bl false) := by
  unfold isF at h
  split at h
  · rfl
  · cases h
theorem rng1 (a k : Nat) : rangeD (a : Int) k = (List.range' a k).map fun i => D.int (i : Nat) := by
  unfold rangeD
  rw [List.range'_eq_map_range, List.map_map]
  refine List.map_congr_left fun i _ => ?_
  show D.int ((a : Int) + (i : Nat)) = D.int ((a + i : Nat) : Int)
  rw [Int.natCast_add]
def hvR (p i : Nat) : List (Nat × Nat × Int) := (List.range' (i + 1) (p - (i + 1))).map fun j => (i, j, 0)
theorem hv_row (G : D) (p i : Nat) (acc : List D) : lcLoop (gN 3) dYes (dTup (dCons (dVar 2) (dCons (dVar 3) (dCons (dC (.int 0)) dNil)))) [3] ((List.range' (i + 1) (p - (i + 1))).map fun j => D.int (j : Nat)) [.fz G, .fz (.int (p : Nat)), .fz (.int (i : Nat)), .no] acc = .ok (acc ++ (hvR p i).map encW) [.fz G, .fz (.int (p : Nat)), .fz (.int (i : Nat)), .no] := by
  have := lcLoop_map (gg := gN 3) (ft := dYes) (fe := dTup (dCons (dVar 2) (dCons (dVar 3) (dCons (dC (.int 0)) dNil)))) (vs := [3]) (fun j : Nat => D.int (j : Nat)) (fun j => encW (i, j, 0)) (List.range' (i + 1) (p - (i + 1))) [.fz G, .fz (.int (p : Nat)), .fz (.int (i : Nat)), .no] acc fun j hj => by
    unfold encW
    simp only [dVar, vSlot, dC, dOp2, vOp2, dOpA, vOpA, vAn, An.r, dTst, DL.vBool, vTru, dTru, truth, dAnd, dOr, dNot, dAndV, dOrV, dNotV, dIfE, dNil, dCons, dTup, vTup, dLst, vLst, dSkip, vSeq, dSeq, dIf, dRet, dDrop, vSto, vSet, dSet, vAsg, dAsg, gN, DL.gNil, DL.gCons, gTupD, dFor, vTurn, dUn, gNeg, dMul, vMul, isNew, gAdd, DL.gSub, gII, tt2, cdiv, gFdiv, cmod, gMod, cpow, gPow, gLt, gLe, gGt, gGe, gEq_ii, gNe_ii, dIsN, DL.isNon, dCh, vCh, vCh2, dON, dOS, dSl, vSl, gSubL, dAug, vAug, isFN, vPar, dPar, vM, dM, isL, mApp, mPopAt, mPop, gIdx, vTIdx, isT, dTIdx, gIx, dFn, vFn, ress, gLen, gIsi5, isTy, kn, gAll, gAny, gInt, gAbs, gMax2, gMin2, gSum, gMax1, gMin1, gSorted, gList, gTuple, dR1, dR2, vR1, vR2, dLRg, dTRg, dLenSet, vLenSet, dSeqI, vSeqI, itemsOf, dRng1, dRng2, vRng1, vRng2, dEnum, dZip2, dZip3, vEnum, vZip2, vZip3, dLC, vLC, dCall, vCall, frzM, cSl, cSls, upR, cRes, atsOf, fnD, ownIn_G, ownG_nil, ownG_fz, ownG_no, ownG_own, wipeE, dStep, lcStep, dYes, vFin, vOut, outR, outE, dLend, vLend, lendE, backE, flatR, lend_fzo, back_fzo, lend_fz, lend_no, lend_own1, lend_own0, back_fz, back_no, back_own1, back_own0, flat_ints, flatO_ints, yPlain, yNil, vYSeq, ySeq, vYield, yYield, yFor, vGen, fzE, gnD, noE, vListG, dListG, gAddI, gMulI, dLit, dFmt, vFmt, dJs, dJoin, gStr, dCallB, vCallB, keepOwn, isOwn, res, frz, frzs, flat, O.bind_ok, O.bind_bad, O.bind_exn, List.nodup_cons, List.nodup_nil, List.not_mem_nil, List.mem_cons, List.mem_singleton, not_false_eq_true, and_true, true_and, List.contains_cons, List.contains_nil, Nat.zero_add, List.getElem?_nil, List.getElem?_cons_zero, List.getElem?_cons_succ, List.set_cons_zero, List.set_cons_succ, Option.map_some, Option.map_none, if_true, if_false, Bool.and_true, Bool.true_and, Bool.and_false, Bool.false_and, Bool.or_true, Bool.true_or, Bool.or_false, Bool.false_or, Bool.not_true, Bool.not_false, List.length_cons, List.length_nil, List.append_nil, List.cons_append, List.nil_append, List.replicate_succ, List.replicate_zero, decide_true, decide_false, ↓reduceIte, Int.cast_ofNat_Int, Int.reduceLE, Int.reduceLT, Int.reduceToNat, Int.reduceAdd, Int.reduceSub, Int.reduceMul, Int.reduceNeg, Int.reduceEq, Int.reduceNe, Int.reduceBEq, Int.reduceBNe, Int.reduceGT, Int.reduceGE, ne_eq, Nat.reduceAdd, Nat.reduceLeDiff, Nat.reduceEqDiff, Nat.reduceSub, Nat.reduceMul, Nat.reduceLT, Nat.reduceBEq, String.reduceEq, reduceCtorEq, beq_self_eq_true, List.map_cons, List.map_nil, List.reverse_nil]
  rw [this]
  unfold hvR
  rw [List.map_map]
  rfl
theorem hv_loop (G : D) (p : Nat) (hp : p < 9) : ∀ (is : List Nat) (acc : List D), (∀ i ∈ is, i < p) → lc2Loop (gN 2) dYes (dRng2 (dCons (dOpA gAdd (dVar 2) (dC (.int 1))) (dCons (dVar 1) dNil))) (gN 3) dYes (dTup (dCons (dVar 2) (dCons (dVar 3) (dCons (dC (.int 0)) dNil)))) [2, 3] [3] (is.map fun i => D.int (i : Nat)) [.fz G, .fz (.int (p : Nat)), .no, .no] acc = .ok (acc ++ (is.flatMap (hvR p)).map encW) [.fz G, .fz (.int (p : Nat)), .no, .no]
  | [], acc, _ => by rw [List.map_nil, List.flatMap_nil, List.map_nil, List.append_nil]; rfl
  | i :: is, acc, hi => by
    have ih := hv_loop G p hp is (acc ++ (hvR p i).map encW) fun k hk => hi k (List.mem_cons_of_mem _ hk)
    have hip := hi i List.mem_cons_self
    have hr := hv_row G p i acc
    have e1 : ((i : Int) + 1) = ((i + 1 : Nat) : Int) := by omega
    have e2 : ((p : Int) - ((i + 1 : Nat) : Int)).toNat = p - (i + 1) := by omega
    have e3 : ((List.range' (i + 1) (p - (i + 1))).map fun j => D.int (j : Nat)).length ≤ 1000 := by rw [List.length_map, List.length_range']; omega
    have hs1 : smallI ((i + 1 : Nat) : Int) = true := rg8 (i + 1) (by omega)
    have hs2 : smallI (p : Int) = true := rg8 p hp
    rw [List.map_cons, List.flatMap_cons, List.map_append, ← List.append_assoc]
    unfold lc2Loop
    simp only [dVar, vSlot, dC, dOp2, vOp2, dOpA, vOpA, vAn, An.r, dTst, DL.vBool, vTru, dTru, truth, dAnd, dOr, dNot, dAndV, dOrV, dNotV, dIfE, dNil, dCons, dTup, vTup, dLst, vLst, dSkip, vSeq, dSeq, dIf, dRet, dDrop, vSto, vSet, dSet, vAsg, dAsg, gN, DL.gNil, DL.gCons, gTupD, dFor, vTurn, dUn, gNeg, dMul, vMul, isNew, gAdd, DL.gSub, gII, tt2, cdiv, gFdiv, cmod, gMod, cpow, gPow, gLt, gLe, gGt, gGe, gEq_ii, gNe_ii, dIsN, DL.isNon, dCh, vCh, vCh2, dON, dOS, dSl, vSl, gSubL, dAug, vAug, isFN, vPar, dPar, vM, dM, isL, mApp, mPopAt, mPop, gIdx, vTIdx, isT, dTIdx, gIx, dFn, vFn, ress, gLen, gIsi5, isTy, kn, gAll, gAny, gInt, gAbs, gMax2, gMin2, gSum, gMax1, gMin1, gSorted, gList, gTuple, dR1, dR2, vR1, vR2, dLRg, dTRg, dLenSet, vLenSet, dSeqI, vSeqI, itemsOf, dRng1, dRng2, vRng1, vRng2, dEnum, dZip2, dZip3, vEnum, vZip2, vZip3, dLC, vLC, dCall, vCall, frzM, cSl, cSls, upR, cRes, atsOf, fnD, ownIn_G, ownG_nil, ownG_fz, ownG_no, ownG_own, wipeE, dStep, lcStep, dYes, vFin, vOut, outR, outE, dLend, vLend, lendE, backE, flatR, lend_fzo, back_fzo, lend_fz, lend_no, lend_own1, lend_own0, back_fz, back_no, back_own1, back_own0, flat_ints, flatO_ints, yPlain, yNil, vYSeq, ySeq, vYield, yYield, yFor, vGen, fzE, gnD, noE, vListG, dListG, gAddI, gMulI, dLit, dFmt, vFmt, dJs, dJoin, gStr, dCallB, vCallB, keepOwn, isOwn, res, frz, frzs, flat, O.bind_ok, O.bind_bad, O.bind_exn, List.nodup_cons, List.nodup_nil, List.not_mem_nil, List.mem_cons, List.mem_singleton, not_false_eq_true, and_true, true_and, List.contains_cons, List.contains_nil, Nat.zero_add, List.getElem?_nil, List.getElem?_cons_zero, List.getElem?_cons_succ, List.set_cons_zero, List.set_cons_succ, Option.map_some, Option.map_none, if_true, if_false, Bool.and_true, Bool.true_and, Bool.and_false, Bool.false_and, Bool.or_true, Bool.true_or, Bool.or_false, Bool.false_or, Bool.not_true, Bool.not_false, List.length_cons, List.length_nil, List.append_nil, List.cons_append, List.nil_append, List.replicate_succ, List.replicate_zero, decide_true, decide_false, ↓reduceIte, Int.cast_ofNat_Int, Int.reduceLE, Int.reduceLT, Int.reduceToNat, Int.reduceAdd, Int.reduceSub, Int.reduceMul, Int.reduceNeg, Int.reduceEq, Int.reduceNe, Int.reduceBEq, Int.reduceBNe, Int.reduceGT, Int.reduceGE, ne_eq, Nat.reduceAdd, Nat.reduceLeDiff, Nat.reduceEqDiff, Nat.reduceSub, Nat.reduceMul, Nat.reduceLT, Nat.reduceBEq, String.reduceEq, reduceCtorEq, beq_self_eq_true, List.map_cons, List.map_nil, List.reverse_nil, e1, hs1, hs2, e2, rng1, e3, hr, lcNext]
    exact ih
theorem hv_lc2 (p : Nat) (hp : p < 9) (G : D) : dLC2 (dRng1 (dCons (dVar 1) dNil)) (gN 2) dYes (dRng2 (dCons (dOpA gAdd (dVar 2) (dC (.int 1))) (dCons (dVar 1) dNil))) (gN 3) dYes (dTup (dCons (dVar 2) (dCons (dVar 3) (dCons (dC (.int 0)) dNil)))) [2, 3] [3] [.fz G, .fz (.int (p : Nat)), .no, .no] = .ok (.new (.lst ((hvP p).map encW))) [.fz G, .fz (.int (p : Nat)), .no, .no] := by
  have h := hv_loop G p hp (List.range p) [] fun i hi => List.mem_range.mp hi
  have hs2 : smallI (p : Int) = true := rg8 p hp
  have e3 : (rangeD 0 p).length ≤ 1000 := by rw [rangeD_length]; omega
  rw [← rng0, List.nil_append] at h
  have e4 : (List.range p).flatMap (hvR p) = hvP p := rfl
  rw [e4] at h
  unfold dLC2 vLC2
  simp only [dVar, vSlot, dC, dOp2, vOp2, dOpA, vOpA, vAn, An.r, dTst, DL.vBool, vTru, dTru, truth, dAnd, dOr, dNot, dAndV, dOrV, dNotV, dIfE, dNil, dCons, dTup, vTup, dLst, vLst, dSkip, vSeq, dSeq, dIf, dRet, dDrop, vSto, vSet, dSet, vAsg, dAsg, gN, DL.gNil, DL.gCons, gTupD, dFor, vTurn, dUn, gNeg, dMul, vMul, isNew, gAdd, DL.gSub, gII, tt2, cdiv, gFdiv, cmod, gMod, cpow, gPow, gLt, gLe, gGt, gGe, gEq_ii, gNe_ii, dIsN, DL.isNon, dCh, vCh, vCh2, dON, dOS, dSl, vSl, gSubL, dAug, vAug, isFN, vPar, dPar, vM, dM, isL, mApp, mPopAt, mPop, gIdx, vTIdx, isT, dTIdx, gIx, dFn, vFn, ress, gLen, gIsi5, isTy, kn, gAll, gAny, gInt, gAbs, gMax2, gMin2, gSum, gMax1, gMin1, gSorted, gList, gTuple, dR1, dR2, vR1, vR2, dLRg, dTRg, dLenSet, vLenSet, dSeqI, vSeqI, itemsOf, dRng1, dRng2, vRng1, vRng2, dEnum, dZip2, dZip3, vEnum, vZip2, vZip3, dLC, vLC, dCall, vCall, frzM, cSl, cSls, upR, cRes, atsOf, fnD, ownIn_G, ownG_nil, ownG_fz, ownG_no, ownG_own, wipeE, dStep, lcStep, dYes, vFin, vOut, outR, outE, dLend, vLend, lendE, backE, flatR, lend_fzo, back_fzo, lend_fz, lend_no, lend_own1, lend_own0, back_fz, back_no, back_own1, back_own0, flat_ints, flatO_ints, yPlain, yNil, vYSeq, ySeq, vYield, yYield, yFor, vGen, fzE, gnD, noE, vListG, dListG, gAddI, gMulI, dLit, dFmt, vFmt, dJs, dJoin, gStr, dCallB, vCallB, keepOwn, isOwn, res, frz, frzs, flat, O.bind_ok, O.bind_bad, O.bind_exn, List.nodup_cons, List.nodup_nil, List.not_mem_nil, List.mem_cons, List.mem_singleton, not_false_eq_true, and_true, true_and, List.contains_cons, List.contains_nil, Nat.zero_add, List.getElem?_nil, List.getElem?_cons_zero, List.getElem?_cons_succ, List.set_cons_zero, List.set_cons_succ, Option.map_some, Option.map_none, if_true, if_false, Bool.and_true, Bool.true_and, Bool.and_false, Bool.false_and, Bool.or_true, Bool.true_or, Bool.or_false, Bool.false_or, Bool.not_true, Bool.not_false, List.length_cons, List.length_nil, List.append_nil, List.cons_append, List.nil_append, List.replicate_succ, List.replicate_zero, decide_true, decide_false, ↓reduceIte, Int.cast_ofNat_Int, Int.reduceLE, Int.reduceLT, Int.reduceToNat, Int.reduceAdd, Int.reduceSub, Int.reduceMul, Int.reduceNeg, Int.reduceEq, Int.reduceNe, Int.reduceBEq, Int.reduceBNe, Int.reduceGT, Int.reduceGE, ne_eq, Nat.reduceAdd, Nat.reduceLeDiff, Nat.reduceEqDiff, Nat.reduceSub, Nat.reduceMul, Nat.reduceLT, Nat.reduceBEq, String.reduceEq, reduceCtorEq, beq_self_eq_true, List.map_cons, List.map_nil, List.reverse_nil, hs2, Int.sub_zero, Int.toNat_natCast, e3, h]
theorem hv_len : ∀ p, p < 9 → ((hvP p).length : Int) = ((p : Int) * ((p : Int) - 1)) / 2 ∧ (hvP p).length ≤ 28 := by decide
theorem hv_all : ∀ p, p < 9 → ∀ q ∈ hvP p, q.1 < q.2.1 ∧ q.2.1 < p ∧ q.2.2 = 0 := by decide
theorem hv_ne : ∀ p, p < 9 → isF (gNe (.lst ((hvP p).map prW)) (.lst ((hvP p).map prW))) = true := by decide +kernel
def srtB (p : Nat) : Bool := match toTP ((hvP p).map prW) with
  | some l => decide (l.length < 64) && bdB l && ascB l
  | none => false
theorem hv_srt : ∀ p, p < 9 → srtB p = true := by decide +kernel
theorem srtB_use {p : Nat} (h : srtB p = true) (ε : En) : vSrtST ε (.fz (.lst ((hvP p).map prW))) = .ok (.new (.lst ((hvP p).map prW))) ε ∧ ∀ i, ε[i]? = some (.own (.lst ((hvP p).map prW))) → vSrtST ε (.at i) = .ok (.new (.lst ((hvP p).map prW))) ε := by
  unfold srtB at h
  cases e : toTP ((hvP p).map prW) with
  | none => rw [e] at h; cases h
  | some l =>
    rw [e] at h
    refine ⟨?_, fun i hi => ?_⟩
    · unfold vSrtST
      have : res ε (.fz (.lst ((hvP p).map prW))) = some (.lst ((hvP p).map prW)) := rfl
      rw [this]
      simp only [e]
      rw [if_pos h]
    · unfold vSrtST
      have : res ε (.at i) = some (.lst ((hvP p).map prW)) := by show (match ε[i]? with | some (.own d) => some d | _ => none) = _; rw [hi]
      rw [this]
      simp only [e]
      rw [if_pos h]
section
variable {n p : Nat} {rs : List (List Int)} {x : List Int}
theorem L_due (g : VG n p rs x) (hs : List Int) (hl : hs.length = p) (hb : ∀ v ∈ hs, -30 ≤ v ∧ v ≤ 29) (S0 S1 S2 S3 S10 S11 S12 S13 S14 S15 : Sl) : ∀ (is : List Nat) (ds : List D) (s8 s9 : Sl), (∀ i ∈ is, i < p) → ds.length + is.length ≤ 100 → ∃ c8 c9,
    dLoop g_law_1 b_law_1 (is.map (rsP rs hs)) [S0, S1, S2, S3, .fz (.tup (rs.map tI)), .fz (tI x), .fz (tI hs), .own (.lst ds), s8, s9, S10, S11, S12, S13, S14, S15, .no, .no] = .ok .nx [S0, S1, S2, S3, .fz (.tup (rs.map tI)), .fz (tI x), .fz (tI hs), .own (.lst (ds ++ is.map fun i => lI (rsT n rs x p (hO hs) i))), c8, c9, S10, S11, S12, S13, S14, S15, .no, .no]
  | [], ds, s8, s9, _, _ => ⟨s8, s9, by rw [List.map_nil, List.map_nil, List.append_nil]; rfl⟩
  | i :: is, ds, s8, s9, hi, hn => by
    rw [List.length_cons] at hn
    have st := x_due g hs hl hb i (hi i List.mem_cons_self) ds (by omega) S0 S1 S2 S3 s8 s9 S10 S11 S12 S13 S14 S15
    obtain ⟨c8, c9, e⟩ := L_due g hs hl hb S0 S1 S2 S3 S10 S11 S12 S13 S14 S15 is (ds ++ [lI (rsT n rs x p (hO hs) i)]) (.fz (tI (rwO rs i))) (.fz (.int (hO hs i))) (fun k hk => hi k (List.mem_cons_of_mem _ hk)) (by rw [List.length_append, List.length_singleton]; omega)
    refine ⟨c8, c9, ?_⟩
    have e2 : ds ++ lI (rsT n rs x p (hO hs) i) :: is.map (fun i => lI (rsT n rs x p (hO hs) i)) = ds ++ [lI (rsT n rs x p (hO hs) i)] ++ is.map fun i => lI (rsT n rs x p (hO hs) i) := by simp
    rw [List.map_cons, dLoop_cons, st, List.map_cons, e2]
    exact e
theorem x_all_halved (g : VG n p rs x) : φ_all_halved [.fz (gD rs x)] = .ok (.fz (.tup ((hvP p).map encW))) [.fz (gD rs x)] := by
  have p8 := g.p8
  have e1 := x_is_group g
  have e2 := hv_lc2 p (by omega) (gD rs x)
  have e3 : ((rs.length : Nat) : Int) = (p : Int) := by rw [g.lp]
  have a0 : atI [D.tup (rs.map tI), tI x] 0 = some (.tup (rs.map tI)) := rfl
  have hl := (hv_len p (by omega)).2
  have hl2 : (hvP p).length ≤ 1000000 := by omega
  unfold φ_all_halved
  unfold gD at e1 e2 ⊢
  generalize hq : dLC2 (dRng1 (dCons (dVar 1) dNil)) (gN 2) dYes (dRng2 (dCons (dOpA gAdd (dVar 2) (dC (.int 1))) (dCons (dVar 1) dNil))) (gN 3) dYes (dTup (dCons (dVar 2) (dCons (dVar 3) (dCons (dC (.int 0)) dNil)))) [2, 3] [3] = q at e2 ⊢
  simp only [dVar, vSlot, dC, dOp2, vOp2, dOpA, vOpA, vAn, An.r, dTst, DL.vBool, vTru, dTru, truth, dAnd, dOr, dNot, dAndV, dOrV, dNotV, dIfE, dNil, dCons, dTup, vTup, dLst, vLst, dSkip, vSeq, dSeq, dIf, dRet, dDrop, vSto, vSet, dSet, vAsg, dAsg, gN, DL.gNil, DL.gCons, gTupD, dFor, vTurn, dUn, gNeg, dMul, vMul, isNew, gAdd, DL.gSub, gII, tt2, cdiv, gFdiv, cmod, gMod, cpow, gPow, gLt, gLe, gGt, gGe, gEq_ii, gNe_ii, dIsN, DL.isNon, dCh, vCh, vCh2, dON, dOS, dSl, vSl, gSubL, dAug, vAug, isFN, vPar, dPar, vM, dM, isL, mApp, mPopAt, mPop, gIdx, vTIdx, isT, dTIdx, gIx, dFn, vFn, ress, gLen, gIsi5, isTy, kn, gAll, gAny, gInt, gAbs, gMax2, gMin2, gSum, gMax1, gMin1, gSorted, gList, gTuple, dR1, dR2, vR1, vR2, dLRg, dTRg, dLenSet, vLenSet, dSeqI, vSeqI, itemsOf, dRng1, dRng2, vRng1, vRng2, dEnum, dZip2, dZip3, vEnum, vZip2, vZip3, dLC, vLC, dCall, vCall, frzM, cSl, cSls, upR, cRes, atsOf, fnD, ownIn_G, ownG_nil, ownG_fz, ownG_no, ownG_own, wipeE, dStep, lcStep, dYes, vFin, vOut, outR, outE, dLend, vLend, lendE, backE, flatR, lend_fzo, back_fzo, lend_fz, lend_no, lend_own1, lend_own0, back_fz, back_no, back_own1, back_own0, flat_ints, flatO_ints, yPlain, yNil, vYSeq, ySeq, vYield, yYield, yFor, vGen, fzE, gnD, noE, vListG, dListG, gAddI, gMulI, dLit, dFmt, vFmt, dJs, dJoin, gStr, dCallB, vCallB, keepOwn, isOwn, res, frz, frzs, flat, O.bind_ok, O.bind_bad, O.bind_exn, List.nodup_cons, List.nodup_nil, List.not_mem_nil, List.mem_cons, List.mem_singleton, not_false_eq_true, and_true, true_and, List.contains_cons, List.contains_nil, Nat.zero_add, List.getElem?_nil, List.getElem?_cons_zero, List.getElem?_cons_succ, List.set_cons_zero, List.set_cons_succ, Option.map_some, Option.map_none, if_true, if_false, Bool.and_true, Bool.true_and, Bool.and_false, Bool.false_and, Bool.or_true, Bool.true_or, Bool.or_false, Bool.false_or, Bool.not_true, Bool.not_false, List.length_cons, List.length_nil, List.append_nil, List.cons_append, List.nil_append, List.replicate_succ, List.replicate_zero, decide_true, decide_false, ↓reduceIte, Int.cast_ofNat_Int, Int.reduceLE, Int.reduceLT, Int.reduceToNat, Int.reduceAdd, Int.reduceSub, Int.reduceMul, Int.reduceNeg, Int.reduceEq, Int.reduceNe, Int.reduceBEq, Int.reduceBNe, Int.reduceGT, Int.reduceGE, ne_eq, Nat.reduceAdd, Nat.reduceLeDiff, Nat.reduceEqDiff, Nat.reduceSub, Nat.reduceMul, Nat.reduceLT, Nat.reduceBEq, String.reduceEq, reduceCtorEq, beq_self_eq_true, List.map_cons, List.map_nil, List.reverse_nil, a0, List.length_map, e1, e2, e3, hl2]
end

theorem soks_L (ls : List (List Int)) : soks (ls.map lI) = true := by
  induction ls with
  | nil => rfl
  | cons l ls ih =>
    rw [List.map_cons]
    unfold soks
    rw [ih]
    unfold lI sok
    rw [soks_i]; rfl
theorem deps_L (ls : List (List Int)) : deps (ls.map lI) ≤ 1 := by
  induction ls with
  | nil => exact Nat.zero_le _
  | cons l ls ih =>
    rw [List.map_cons]
    unfold deps lI dep
    unfold lI at ih
    rw [deps_i]
    omega
theorem deqs_L (ls : List (List Int)) : deqs (ls.map lI) (ls.map lI) = true := by
  induction ls with
  | nil => unfold deqs; rfl
  | cons l ls ih =>
    rw [List.map_cons]
    unfold deqs
    rw [ih]
    unfold lI deq
    rw [deqs_i]
    simp
theorem gNe_L (ls : List (List Int)) : gNe (.lst (ls.map lI)) (.lst (ls.map lI)) = some (.bl false) := by
  have h : okq (.lst (ls.map lI)) = true := by
    have := deps_L ls
    unfold okq sok dep
    rw [soks_L, Bool.true_and, decide_eq_true_eq]
    omega
  unfold gNe
  rw [h, if_pos (show (true && true) = true from rfl)]
  unfold deq
  rw [deqs_L]; rfl
theorem nice_L (k : Nat) (ls : List (List Int)) (h : ls.length ≤ 1000000) (h2 : ∀ l ∈ ls, l.length ≤ 1000000) : nice (k + 2) (.lst (ls.map lI)) = true := by
  unfold nice
  rw [Bool.and_eq_true, decide_eq_true_eq, List.length_map, List.all_eq_true]
  refine ⟨h, fun y hy => ?_⟩
  obtain ⟨l, hl, rfl⟩ := List.mem_map.mp hy
  exact nice_lI k l (h2 l hl)
theorem noLs_tI (rs : List (List Int)) : noLs (rs.map tI) = true := by
  induction rs with
  | nil => rfl
  | cons r rs ih =>
    rw [List.map_cons]
    unfold noLs
    rw [ih, noL_tI]; rfl
theorem noL_gD (rs : List (List Int)) (x : List Int) : noL (gD rs x) = true := by
  unfold gD noL noLs noLs noLs
  rw [noL_tI]
  unfold noL
  rw [noLs_tI]; rfl
theorem keep36 (a b : D) (ha : noL a = true) (hb : noL b = true) (S0 S1 S2 S4 S5 S7 S8 S9 S10 S11 S12 S13 S14 S15 S16 S17 : Sl) :
    keepFz [3, 6] 0 [S0, S1, S2, .fz a, S4, S5, .fz b, S7, S8, S9, S10, S11, S12, S13, S14, S15, S16, S17] = [.no, .no, .no, .fz a, .no, .no, .fz b, .no, .no, .no, .no, .no, .no, .no, .no, .no, .no, .no] := by
  simp [keepFz, ha, hb]
theorem dFresh_eq {i n : Nat} {js : List Nat} {f : En → O R} {g2 g4 : En → O Fl} {ε ε' ε2 : En} {r0 ds : List D} (e1 : f (keepFz js 0 ε) = .ok (.new (.lst (.fl r0 :: ds))) ε') (h1 : r0.length < 1000) (h2 : ε.length = n) (h3 : i < n)
    (e2 : g2 (ε.set i (.fz (.lst (.lst r0 :: ds.map wk1)))) = .ok .nx ε2) (h4 : ε2.length = n) : dFresh i n js f g2 g4 ε = g4 ((backE [] 0 ε ε2).set i .no) := by
  unfold dFresh vFresh
  rw [e1]
  simp only []
  rw [if_pos ⟨h1, h2, h3⟩, e2]
  simp only []
  rw [if_pos h4]
section
variable {n p : Nat} {rs : List (List Int)} {x : List Int}
def rsL (n : Nat) (rs : List (List Int)) (x : List Int) (p : Nat) (h : Nat → Int) : List (List Int) := (List.range p).map (rsT n rs x p h)
theorem rsT_len {h : Nat → Int} {i : Nat} : (rsT n rs x p h i).length = p := by unfold rsT; rw [List.length_map, List.length_range]
theorem rsL_len {h : Nat → Int} : (rsL n rs x p h).length = p := by unfold rsL; rw [List.length_map, List.length_range]
theorem rsL_mem {h : Nat → Int} : ∀ l ∈ rsL n rs x p h, l.length = p := fun l hl => by
  unfold rsL at hl
  obtain ⟨i, _, rfl⟩ := List.mem_map.mp hl
  exact rsT_len
theorem rsL_map {h : Nat → Int} : ((List.range p).map fun i => lI (rsT n rs x p h i)) = (rsL n rs x p h).map lI := by
  unfold rsL; rw [List.map_map]; rfl
theorem x_res (g : VG n p rs x) (hs : List Int) (hl : hs.length = p) (hb : ∀ v ∈ hs, -1000 ≤ v ∧ v ≤ 1000) : ∃ ds, φ_results [.fz (gD rs x), .fz (tI hs)] = .ok (.new (.lst (.fl ((rsT n rs x p (hO hs) 0).map .int) :: ds))) [.fz (gD rs x), .fz (tI hs)] ∧ D.lst ((rsT n rs x p (hO hs) 0).map .int) :: ds.map wk1 = (rsL n rs x p (hO hs)).map lI := by
  have p2 := g.p2
  have e := x_results g hs hl hb
  have hr : List.range p = 0 :: List.range' 1 (p - 1) := by
    rw [List.range_eq_range']
    obtain ⟨q, rfl⟩ : ∃ q, p = q + 1 := ⟨p - 1, by omega⟩
    rw [List.range'_succ]
    simp
  refine ⟨(List.range' 1 (p - 1)).map fun i => fI (rsT n rs x p (hO hs) i), ?_, ?_⟩
  · rw [e, hr]; rfl
  · rw [← rsL_map, hr, List.map_cons, List.map_map]
    rfl
theorem x_wk {ds : List D} {r0 : List D} {ls : List (List Int)} (h : D.lst r0 :: ds.map wk1 = ls.map lI) : D.lst (wk1 (.fl r0) :: ds.map wk1) = .lst (ls.map lI) := by
  rw [← h]; rfl
theorem RS_shift {h h' : Nat → Int} (e : ∀ i j, i < p → j < p → h' i - h' j = h i - h j) : rsL n rs x p h' = rsL n rs x p h := by
  unfold rsL
  refine List.map_congr_left fun i hi => ?_
  unfold rsT
  refine List.map_congr_left fun j hj => ?_
  rw [e i j (List.mem_range.mp hi) (List.mem_range.mp hj)]
theorem hO_add {hs : List Int} {i : Nat} (h : i < hs.length) (c : Int) : hO (hs.map (· + c)) i = hO hs i + c := by
  unfold hO
  rw [List.getD_eq_getElem?_getD, List.getD_eq_getElem?_getD, List.getElem?_map, List.getElem?_eq_getElem h]
  rfl
theorem q1_ok (g : VG n p rs x) {h : Nat → Int} (S0 S1 S2 S4 S5 S6 S8 S9 S11 S12 S13 S14 S15 S16 S17 : Sl) :
    q_law_1 [S0, S1, S2, .fz (gD rs x), S4, S5, S6, .fz (.lst ((rsL n rs x p h).map lI)), S8, S9, .fz (.lst ((rsL n rs x p h).map lI)), S11, S12, S13, S14, S15, S16, S17] = .ok .nx [S0, S1, S2, .fz (gD rs x), S4, S5, S6, .fz (.lst ((rsL n rs x p h).map lI)), S8, S9, .fz (.lst ((rsL n rs x p h).map lI)), S11, S12, S13, S14, S15, S16, S17] := by
  have p8 := g.p8
  have e1 := x_same_nice 5 (.lst ((rsL n rs x p h).map lI)) (nice_L 3 _ (by rw [rsL_len]; omega) fun l hl => by rw [rsL_mem l hl]; omega)
  have e2 := x_is_group g
  unfold q_law_1
  simp only [dVar, vSlot, dC, dOp2, vOp2, dOpA, vOpA, vAn, An.r, dTst, DL.vBool, vTru, dTru, truth, dAnd, dOr, dNot, dAndV, dOrV, dNotV, dIfE, dNil, dCons, dTup, vTup, dLst, vLst, dSkip, vSeq, dSeq, dIf, dRet, dDrop, vSto, vSet, dSet, vAsg, dAsg, gN, DL.gNil, DL.gCons, gTupD, dFor, vTurn, dUn, gNeg, dMul, vMul, isNew, gAdd, DL.gSub, gII, tt2, cdiv, gFdiv, cmod, gMod, cpow, gPow, gLt, gLe, gGt, gGe, gEq_ii, gNe_ii, dIsN, DL.isNon, dCh, vCh, vCh2, dON, dOS, dSl, vSl, gSubL, dAug, vAug, isFN, vPar, dPar, vM, dM, isL, mApp, mPopAt, mPop, gIdx, vTIdx, isT, dTIdx, gIx, dFn, vFn, ress, gLen, gIsi5, isTy, kn, gAll, gAny, gInt, gAbs, gMax2, gMin2, gSum, gMax1, gMin1, gSorted, gList, gTuple, dR1, dR2, vR1, vR2, dLRg, dTRg, dLenSet, vLenSet, dSeqI, vSeqI, itemsOf, dRng1, dRng2, vRng1, vRng2, dEnum, dZip2, dZip3, vEnum, vZip2, vZip3, dLC, vLC, dCall, vCall, frzM, cSl, cSls, upR, cRes, atsOf, fnD, ownIn_G, ownG_nil, ownG_fz, ownG_no, ownG_own, wipeE, dStep, lcStep, dYes, vFin, vOut, outR, outE, dLend, vLend, lendE, backE, flatR, lend_fzo, back_fzo, lend_fz, lend_no, lend_own1, lend_own0, back_fz, back_no, back_own1, back_own0, flat_ints, flatO_ints, yPlain, yNil, vYSeq, ySeq, vYield, yYield, yFor, vGen, fzE, gnD, noE, vListG, dListG, gAddI, gMulI, dLit, dFmt, vFmt, dJs, dJoin, gStr, dCallB, vCallB, keepOwn, isOwn, res, frz, frzs, flat, O.bind_ok, O.bind_bad, O.bind_exn, List.nodup_cons, List.nodup_nil, List.not_mem_nil, List.mem_cons, List.mem_singleton, not_false_eq_true, and_true, true_and, List.contains_cons, List.contains_nil, Nat.zero_add, List.getElem?_nil, List.getElem?_cons_zero, List.getElem?_cons_succ, List.set_cons_zero, List.set_cons_succ, Option.map_some, Option.map_none, if_true, if_false, Bool.and_true, Bool.true_and, Bool.and_false, Bool.false_and, Bool.or_true, Bool.true_or, Bool.or_false, Bool.false_or, Bool.not_true, Bool.not_false, List.length_cons, List.length_nil, List.append_nil, List.cons_append, List.nil_append, List.replicate_succ, List.replicate_zero, decide_true, decide_false, ↓reduceIte, Int.cast_ofNat_Int, Int.reduceLE, Int.reduceLT, Int.reduceToNat, Int.reduceAdd, Int.reduceSub, Int.reduceMul, Int.reduceNeg, Int.reduceEq, Int.reduceNe, Int.reduceBEq, Int.reduceBNe, Int.reduceGT, Int.reduceGE, ne_eq, Nat.reduceAdd, Nat.reduceLeDiff, Nat.reduceEqDiff, Nat.reduceSub, Nat.reduceMul, Nat.reduceLT, Nat.reduceBEq, String.reduceEq, reduceCtorEq, beq_self_eq_true, List.map_cons, List.map_nil, List.reverse_nil, e1, e2, gIsB]
end

theorem mul8 : ∀ p : Nat, p < 9 → mulOk (p : Int) ((p : Int) - 1) = true := by decide
section
variable {n p : Nat} {rs : List (List Int)} {x : List Int}
theorem q2_ok (g : VG n p rs x) (hs : List Int) (hl : hs.length = p) (hb : ∀ v ∈ hs, -30 ≤ v ∧ v ≤ 29) (S0 S1 S2 S5 S8 S9 S11 S12 S13 : Sl) :
    ∃ c9 c11 c12 c13, q_law_2 [S0, S1, S2, .fz (gD rs x), .fz (.tup (rs.map tI)), S5, .fz (tI hs), .fz (.lst ((rsL n rs x p (hO hs)).map lI)), S8, S9, .no, S11, S12, S13, .no, .no, .no, .no] = .ok .nx [S0, S1, S2, .fz (gD rs x), .fz (.tup (rs.map tI)), S5, .fz (tI hs), .fz (.lst ((rsL n rs x p (hO hs)).map lI)), S8, c9, .no, c11, c12, c13, .no, .no, .no, .no] := by
  have p8 := g.p8
  have p2 := g.p2
  obtain ⟨d1, r1, m1⟩ := x_res g hs hl fun v hv => by have := hb v hv; omega
  obtain ⟨d2, r2, m2⟩ := x_res g (hs.map (· + 7)) (by rw [List.length_map]; exact hl) fun v hv => by
    obtain ⟨w, hw, rfl⟩ := List.mem_map.mp hv
    have := hb w hw
    omega
  have sh : rsL n rs x p (hO (hs.map (· + 7))) = rsL n rs x p (hO hs) := RS_shift fun i j hi hj => by
    rw [hO_add (by omega), hO_add (by omega)]; omega
  rw [sh] at m2
  have w1 := x_wk m1
  have w2 := x_wk m2
  have g0 := gNe_L (rsL n rs x p (hO hs))
  have ha := x_all_halved g
  have hlen := hv_len p (by omega)
  have hin := hv_all p (by omega)
  have hne := isF_eq (hv_ne p (by omega))
  have hsr := fun ε => (srtB_use (hv_srt p (by omega)) ε).2 13
  have l1 := fun S14 => lcLoop_map (gg := gN 9) (ft := dYes) (fe := dOpA gAdd (dVar 9) (dC (.int 7))) (vs := [9]) D.int (fun v => .int (v + 7)) hs [S0, S1, S2, .fz (gD rs x), .fz (.tup (rs.map tI)), S5, .fz (tI hs), .fz (.lst ((rsL n rs x p (hO hs)).map lI)), S8, .no, .no, S11, S12, S13, S14, .no, .no, .no] [] fun v hv => by simp only [dVar, vSlot, dC, dOp2, vOp2, dOpA, vOpA, vAn, An.r, dTst, DL.vBool, vTru, dTru, truth, dAnd, dOr, dNot, dAndV, dOrV, dNotV, dIfE, dNil, dCons, dTup, vTup, dLst, vLst, dSkip, vSeq, dSeq, dIf, dRet, dDrop, vSto, vSet, dSet, vAsg, dAsg, gN, DL.gNil, DL.gCons, gTupD, dFor, vTurn, dUn, gNeg, dMul, vMul, isNew, gAdd, DL.gSub, gII, tt2, cdiv, gFdiv, cmod, gMod, cpow, gPow, gLt, gLe, gGt, gGe, gEq_ii, gNe_ii, dIsN, DL.isNon, dCh, vCh, vCh2, dON, dOS, dSl, vSl, gSubL, dAug, vAug, isFN, vPar, dPar, vM, dM, isL, mApp, mPopAt, mPop, gIdx, vTIdx, isT, dTIdx, gIx, dFn, vFn, ress, gLen, gIsi5, isTy, kn, gAll, gAny, gInt, gAbs, gMax2, gMin2, gSum, gMax1, gMin1, gSorted, gList, gTuple, dR1, dR2, vR1, vR2, dLRg, dTRg, dLenSet, vLenSet, dSeqI, vSeqI, itemsOf, dRng1, dRng2, vRng1, vRng2, dEnum, dZip2, dZip3, vEnum, vZip2, vZip3, dLC, vLC, dCall, vCall, frzM, cSl, cSls, upR, cRes, atsOf, fnD, ownIn_G, ownG_nil, ownG_fz, ownG_no, ownG_own, wipeE, dStep, lcStep, dYes, vFin, vOut, outR, outE, dLend, vLend, lendE, backE, flatR, lend_fzo, back_fzo, lend_fz, lend_no, lend_own1, lend_own0, back_fz, back_no, back_own1, back_own0, flat_ints, flatO_ints, yPlain, yNil, vYSeq, ySeq, vYield, yYield, yFor, vGen, fzE, gnD, noE, vListG, dListG, gAddI, gMulI, dLit, dFmt, vFmt, dJs, dJoin, gStr, dCallB, vCallB, keepOwn, isOwn, res, frz, frzs, flat, O.bind_ok, O.bind_bad, O.bind_exn, List.nodup_cons, List.nodup_nil, List.not_mem_nil, List.mem_cons, List.mem_singleton, not_false_eq_true, and_true, true_and, List.contains_cons, List.contains_nil, Nat.zero_add, List.getElem?_nil, List.getElem?_cons_zero, List.getElem?_cons_succ, List.set_cons_zero, List.set_cons_succ, Option.map_some, Option.map_none, if_true, if_false, Bool.and_true, Bool.true_and, Bool.and_false, Bool.false_and, Bool.or_true, Bool.true_or, Bool.or_false, Bool.false_or, Bool.not_true, Bool.not_false, List.length_cons, List.length_nil, List.append_nil, List.cons_append, List.nil_append, List.replicate_succ, List.replicate_zero, decide_true, decide_false, ↓reduceIte, Int.cast_ofNat_Int, Int.reduceLE, Int.reduceLT, Int.reduceToNat, Int.reduceAdd, Int.reduceSub, Int.reduceMul, Int.reduceNeg, Int.reduceEq, Int.reduceNe, Int.reduceBEq, Int.reduceBNe, Int.reduceGT, Int.reduceGE, ne_eq, Nat.reduceAdd, Nat.reduceLeDiff, Nat.reduceEqDiff, Nat.reduceSub, Nat.reduceMul, Nat.reduceLT, Nat.reduceBEq, String.reduceEq, reduceCtorEq, beq_self_eq_true, List.map_cons, List.map_nil, List.reverse_nil]
  have hm7 : hs.map (fun v => D.int (v + 7)) = (hs.map (· + 7)).map D.int := by rw [List.map_map]; rfl
  rw [hm7] at l1
  have l2 := lcLoop_map (gg := gN 14) (ft := dYes) (fe := dTup (dCons (dOpA gIx (dVar 14) (dC (.int 0))) (dCons (dOpA gIx (dVar 14) (dC (.int 1))) dNil))) (vs := [14]) encW prW (hvP p) [S0, S1, S2, .fz (gD rs x), .fz (.tup (rs.map tI)), S5, .fz (tI hs), .fz (.lst ((rsL n rs x p (hO hs)).map lI)), S8, .no, .no, .fz (.tup ((hvP p).map encW)), .fz (.int (p : Nat)), S13, .no, .no, .no, .no] [] fun q hq => by
    unfold encW prW
    simp only [dVar, vSlot, dC, dOp2, vOp2, dOpA, vOpA, vAn, An.r, dTst, DL.vBool, vTru, dTru, truth, dAnd, dOr, dNot, dAndV, dOrV, dNotV, dIfE, dNil, dCons, dTup, vTup, dLst, vLst, dSkip, vSeq, dSeq, dIf, dRet, dDrop, vSto, vSet, dSet, vAsg, dAsg, gN, DL.gNil, DL.gCons, gTupD, dFor, vTurn, dUn, gNeg, dMul, vMul, isNew, gAdd, DL.gSub, gII, tt2, cdiv, gFdiv, cmod, gMod, cpow, gPow, gLt, gLe, gGt, gGe, gEq_ii, gNe_ii, dIsN, DL.isNon, dCh, vCh, vCh2, dON, dOS, dSl, vSl, gSubL, dAug, vAug, isFN, vPar, dPar, vM, dM, isL, mApp, mPopAt, mPop, gIdx, vTIdx, isT, dTIdx, gIx, dFn, vFn, ress, gLen, gIsi5, isTy, kn, gAll, gAny, gInt, gAbs, gMax2, gMin2, gSum, gMax1, gMin1, gSorted, gList, gTuple, dR1, dR2, vR1, vR2, dLRg, dTRg, dLenSet, vLenSet, dSeqI, vSeqI, itemsOf, dRng1, dRng2, vRng1, vRng2, dEnum, dZip2, dZip3, vEnum, vZip2, vZip3, dLC, vLC, dCall, vCall, frzM, cSl, cSls, upR, cRes, atsOf, fnD, ownIn_G, ownG_nil, ownG_fz, ownG_no, ownG_own, wipeE, dStep, lcStep, dYes, vFin, vOut, outR, outE, dLend, vLend, lendE, backE, flatR, lend_fzo, back_fzo, lend_fz, lend_no, lend_own1, lend_own0, back_fz, back_no, back_own1, back_own0, flat_ints, flatO_ints, yPlain, yNil, vYSeq, ySeq, vYield, yYield, yFor, vGen, fzE, gnD, noE, vListG, dListG, gAddI, gMulI, dLit, dFmt, vFmt, dJs, dJoin, gStr, dCallB, vCallB, keepOwn, isOwn, res, frz, frzs, flat, O.bind_ok, O.bind_bad, O.bind_exn, List.nodup_cons, List.nodup_nil, List.not_mem_nil, List.mem_cons, List.mem_singleton, not_false_eq_true, and_true, true_and, List.contains_cons, List.contains_nil, Nat.zero_add, List.getElem?_nil, List.getElem?_cons_zero, List.getElem?_cons_succ, List.set_cons_zero, List.set_cons_succ, Option.map_some, Option.map_none, if_true, if_false, Bool.and_true, Bool.true_and, Bool.and_false, Bool.false_and, Bool.or_true, Bool.true_or, Bool.or_false, Bool.false_or, Bool.not_true, Bool.not_false, List.length_cons, List.length_nil, List.append_nil, List.cons_append, List.nil_append, List.replicate_succ, List.replicate_zero, decide_true, decide_false, ↓reduceIte, Int.cast_ofNat_Int, Int.reduceLE, Int.reduceLT, Int.reduceToNat, Int.reduceAdd, Int.reduceSub, Int.reduceMul, Int.reduceNeg, Int.reduceEq, Int.reduceNe, Int.reduceBEq, Int.reduceBNe, Int.reduceGT, Int.reduceGE, ne_eq, Nat.reduceAdd, Nat.reduceLeDiff, Nat.reduceEqDiff, Nat.reduceSub, Nat.reduceMul, Nat.reduceLT, Nat.reduceBEq, String.reduceEq, reduceCtorEq, beq_self_eq_true, List.map_cons, List.map_nil, List.reverse_nil, at0, at1]
  have l3 := lcLoop_filter (gg := gN 14) (ft := dOr (dNot (dTst (dCh3 gLe gLt gLt (dC (.int 0)) (dOpA gIx (dVar 14) (dC (.int 0))) (dOpA gIx (dVar 14) (dC (.int 1))) (dVar 12)))) (dTst (dOp2 gNe (dOpA gIx (dVar 14) (dC (.int 2))) (dC (.int 0))))) (fe := dVar 14) (vs := [14]) encW (fun _ => false) encW (hvP p) [S0, S1, S2, .fz (gD rs x), .fz (.tup (rs.map tI)), S5, .fz (tI hs), .fz (.lst ((rsL n rs x p (hO hs)).map lI)), S8, .no, .no, .fz (.tup ((hvP p).map encW)), .fz (.int (p : Nat)), .own (.lst ((hvP p).map prW)), .no, .no, .no, .no] [] fun q hq => by
    obtain ⟨h1, h2, h3⟩ := hin q hq
    have i1 : (0 : Int) ≤ (q.1 : Int) := by omega
    have i2 : (q.1 : Int) < (q.2.1 : Int) := by omega
    have i3 : (q.2.1 : Int) < (p : Int) := by omega
    unfold encW
    simp only [dVar, vSlot, dC, dOp2, vOp2, dOpA, vOpA, vAn, An.r, dTst, DL.vBool, vTru, dTru, truth, dAnd, dOr, dNot, dAndV, dOrV, dNotV, dIfE, dNil, dCons, dTup, vTup, dLst, vLst, dSkip, vSeq, dSeq, dIf, dRet, dDrop, vSto, vSet, dSet, vAsg, dAsg, gN, DL.gNil, DL.gCons, gTupD, dFor, vTurn, dUn, gNeg, dMul, vMul, isNew, gAdd, DL.gSub, gII, tt2, cdiv, gFdiv, cmod, gMod, cpow, gPow, gLt, gLe, gGt, gGe, gEq_ii, gNe_ii, dIsN, DL.isNon, dCh, vCh, vCh2, dON, dOS, dSl, vSl, gSubL, dAug, vAug, isFN, vPar, dPar, vM, dM, isL, mApp, mPopAt, mPop, gIdx, vTIdx, isT, dTIdx, gIx, dFn, vFn, ress, gLen, gIsi5, isTy, kn, gAll, gAny, gInt, gAbs, gMax2, gMin2, gSum, gMax1, gMin1, gSorted, gList, gTuple, dR1, dR2, vR1, vR2, dLRg, dTRg, dLenSet, vLenSet, dSeqI, vSeqI, itemsOf, dRng1, dRng2, vRng1, vRng2, dEnum, dZip2, dZip3, vEnum, vZip2, vZip3, dLC, vLC, dCall, vCall, frzM, cSl, cSls, upR, cRes, atsOf, fnD, ownIn_G, ownG_nil, ownG_fz, ownG_no, ownG_own, wipeE, dStep, lcStep, dYes, vFin, vOut, outR, outE, dLend, vLend, lendE, backE, flatR, lend_fzo, back_fzo, lend_fz, lend_no, lend_own1, lend_own0, back_fz, back_no, back_own1, back_own0, flat_ints, flatO_ints, yPlain, yNil, vYSeq, ySeq, vYield, yYield, yFor, vGen, fzE, gnD, noE, vListG, dListG, gAddI, gMulI, dLit, dFmt, vFmt, dJs, dJoin, gStr, dCallB, vCallB, keepOwn, isOwn, res, frz, frzs, flat, O.bind_ok, O.bind_bad, O.bind_exn, List.nodup_cons, List.nodup_nil, List.not_mem_nil, List.mem_cons, List.mem_singleton, not_false_eq_true, and_true, true_and, List.contains_cons, List.contains_nil, Nat.zero_add, List.getElem?_nil, List.getElem?_cons_zero, List.getElem?_cons_succ, List.set_cons_zero, List.set_cons_succ, Option.map_some, Option.map_none, if_true, if_false, Bool.and_true, Bool.true_and, Bool.and_false, Bool.false_and, Bool.or_true, Bool.true_or, Bool.or_false, Bool.false_or, Bool.not_true, Bool.not_false, List.length_cons, List.length_nil, List.append_nil, List.cons_append, List.nil_append, List.replicate_succ, List.replicate_zero, decide_true, decide_false, ↓reduceIte, Int.cast_ofNat_Int, Int.reduceLE, Int.reduceLT, Int.reduceToNat, Int.reduceAdd, Int.reduceSub, Int.reduceMul, Int.reduceNeg, Int.reduceEq, Int.reduceNe, Int.reduceBEq, Int.reduceBNe, Int.reduceGT, Int.reduceGE, ne_eq, Nat.reduceAdd, Nat.reduceLeDiff, Nat.reduceEqDiff, Nat.reduceSub, Nat.reduceMul, Nat.reduceLT, Nat.reduceBEq, String.reduceEq, reduceCtorEq, beq_self_eq_true, List.map_cons, List.map_nil, List.reverse_nil, at0, at1, at2, dCh3, vChT, vCh3, vCh2, i1, i2, i3, h3]
  refine ⟨.no, .fz (.tup ((hvP p).map encW)), .fz (.int (p : Nat)), .own (.lst ((hvP p).map prW)), ?_⟩
  have e3 : ((rs.length : Nat) : Int) = (p : Int) := by rw [g.lp]
  have e5 : ((p : Int) * ((p : Int) - 1)).fdiv 2 = ((hvP p).length : Int) := by
    rw [hlen.1, Int.fdiv_eq_ediv_of_nonneg _ (by omega)]
  have e6 : gNe (.int ((hvP p).length : Nat)) (.int ((hvP p).length : Nat)) = some (.bl false) := by rw [gNe_ii]; simp
  have e7 : (hvP p).length ≤ 1000000 := by omega
  have e8 : hs.length ≤ 1000000 := by omega
  have e9 : rs.length ≤ 1000000 := by rw [g.lp]; omega
  have g1 := gNe_nn
  have e10 := mul8 p (by omega)
  have e11 : (2 : Int).natAbs < 1073741824 := by decide
  have hf : (hvP p).filter (fun _ => false) = [] := List.filter_eq_nil_iff.mpr fun _ _ => by decide
  rw [hf] at l3
  simp only [gLe, DL.gLt] at l3
  try simp only [gAdd, gII] at l1
  unfold tI at r1 r2 l1 l2 l3 ⊢
  unfold q_law_2
  simp only [dVar, vSlot, dC, dOp2, vOp2, dOpA, vOpA, vAn, An.r, dTst, DL.vBool, vTru, dTru, truth, dAnd, dOr, dNot, dAndV, dOrV, dNotV, dIfE, dNil, dCons, dTup, vTup, dLst, vLst, dSkip, vSeq, dSeq, dIf, dRet, dDrop, vSto, vSet, dSet, vAsg, dAsg, gN, DL.gNil, DL.gCons, gTupD, dFor, vTurn, dUn, gNeg, dMul, vMul, isNew, gAdd, DL.gSub, gII, tt2, cdiv, gFdiv, cmod, gMod, cpow, gPow, gLt, gLe, gGt, gGe, dIsN, DL.isNon, dCh, vCh, vCh2, dON, dOS, dSl, vSl, gSubL, dAug, vAug, isFN, vPar, dPar, vM, dM, isL, mApp, mPopAt, mPop, gIdx, vTIdx, isT, dTIdx, gIx, dFn, vFn, ress, gLen, gIsi5, isTy, kn, gAll, gAny, gInt, gAbs, gMax2, gMin2, gSum, gMax1, gMin1, gSorted, gList, gTuple, dR1, dR2, vR1, vR2, dLRg, dTRg, dLenSet, vLenSet, dSeqI, vSeqI, itemsOf, dRng1, dRng2, vRng1, vRng2, dEnum, dZip2, dZip3, vEnum, vZip2, vZip3, dLC, vLC, dCall, vCall, frzM, cSl, cSls, upR, cRes, atsOf, fnD, ownIn_G, ownG_nil, ownG_fz, ownG_no, ownG_own, wipeE, dStep, lcStep, dYes, vFin, vOut, outR, outE, dLend, vLend, lendE, backE, flatR, lend_fzo, back_fzo, lend_fz, lend_no, lend_own1, lend_own0, back_fz, back_no, back_own1, back_own0, flat_ints, flatO_ints, yPlain, yNil, vYSeq, ySeq, vYield, yYield, yFor, vGen, fzE, gnD, noE, vListG, dListG, gAddI, gMulI, dLit, dFmt, vFmt, dJs, dJoin, gStr, dCallB, vCallB, keepOwn, isOwn, res, frz, frzs, flat, O.bind_ok, O.bind_bad, O.bind_exn, List.nodup_cons, List.nodup_nil, List.not_mem_nil, List.mem_cons, List.mem_singleton, not_false_eq_true, and_true, true_and, List.contains_cons, List.contains_nil, Nat.zero_add, List.getElem?_nil, List.getElem?_cons_zero, List.getElem?_cons_succ, List.set_cons_zero, List.set_cons_succ, Option.map_some, Option.map_none, if_true, if_false, Bool.and_true, Bool.true_and, Bool.and_false, Bool.false_and, Bool.or_true, Bool.true_or, Bool.or_false, Bool.false_or, Bool.not_true, Bool.not_false, List.length_cons, List.length_nil, List.append_nil, List.cons_append, List.nil_append, List.replicate_succ, List.replicate_zero, decide_true, decide_false, ↓reduceIte, Int.cast_ofNat_Int, Int.reduceLE, Int.reduceLT, Int.reduceToNat, Int.reduceAdd, Int.reduceSub, Int.reduceMul, Int.reduceNeg, Int.reduceEq, Int.reduceNe, Int.reduceBEq, Int.reduceBNe, Int.reduceGT, Int.reduceGE, ne_eq, Nat.reduceAdd, Nat.reduceLeDiff, Nat.reduceEqDiff, Nat.reduceSub, Nat.reduceMul, Nat.reduceLT, Nat.reduceBEq, String.reduceEq, reduceCtorEq, beq_self_eq_true, List.map_cons, List.map_nil, List.reverse_nil, dWk, vWk, r1, r2, w1, w2, g0, l1, l2, l3, ha, e3, e5, e6, e7, e8, e9, List.length_map, hne, hsr, dSrtST, g1, e10, e11]
end

section
variable {n p : Nat} {rs : List (List Int)} {x : List Int}
theorem x_tail (g : VG n p rs x) (hs : List Int) (hl : hs.length = p) (hb : ∀ v ∈ hs, -30 ≤ v ∧ v ≤ 29) (m : Nat) (d : D) (hd : Dk m d) (A0 S1 S5 S8 S9 S10 S11 S12 S13 : Sl) :
    ∃ c5 c8 c9 c10 c11 c12 c13 c1 c0, dLock 7 (dFresh 10 18 [3, 6] (dCall φ_results [false, false] (dCons (dVar 3) (dCons (dVar 6) dNil))) q_law_1 q_law_2)
      [A0, S1, .own d, .fz (gD rs x), .fz (.tup (rs.map tI)), S5, .fz (tI hs), .own (.lst ((rsL n rs x p (hO hs)).map lI)), S8, S9, S10, S11, S12, S13, .no, .no, .no, .no] = .ok .nx [c0, c1, .own d, .fz (gD rs x), .fz (.tup (rs.map tI)), c5, .fz (tI hs), .fz (.lst ((rsL n rs x p (hO hs)).map lI)), c8, c9, c10, c11, c12, c13, .no, .no, .no, .no] ∧ c0 = backS false A0 A0 := by
  have p8 := g.p8
  obtain ⟨ds, r1, m1⟩ := x_res g hs hl fun v hv => by have := hb v hv; omega
  have hk := keep36 (gD rs x) (tI hs) (noL_gD rs x) (noL_tI hs) A0 S1 (.own d) (.fz (.tup (rs.map tI))) S5 (.fz (.lst ((rsL n rs x p (hO hs)).map lI))) S8 S9 S10 S11 S12 S13 .no .no .no .no
  have q1 := q1_ok g (h := hO hs) A0 S1 (.own d) (.fz (.tup (rs.map tI))) S5 (.fz (tI hs)) S8 S9 S11 S12 S13 .no .no .no .no
  have f1 : ∃ ε', (dCall φ_results [false, false] (dCons (dVar 3) (dCons (dVar 6) dNil))) (keepFz [3, 6] 0 [A0, S1, .own d, .fz (gD rs x), .fz (.tup (rs.map tI)), S5, .fz (tI hs), .fz (.lst ((rsL n rs x p (hO hs)).map lI)), S8, S9, S10, S11, S12, S13, .no, .no, .no, .no]) = .ok (.new (.lst (.fl ((rsT n rs x p (hO hs) 0).map .int) :: ds))) ε' := by
    rw [hk]
    refine ⟨[.no, .no, .no, .fz (gD rs x), .no, .no, .fz (tI hs), .no, .no, .no, .no, .no, .no, .no, .no, .no, .no, .no], ?_⟩
    simp only [dVar, vSlot, dC, dOp2, vOp2, dOpA, vOpA, vAn, An.r, dTst, DL.vBool, vTru, dTru, truth, dAnd, dOr, dNot, dAndV, dOrV, dNotV, dIfE, dNil, dCons, dTup, vTup, dLst, vLst, dSkip, vSeq, dSeq, dIf, dRet, dDrop, vSto, vSet, dSet, vAsg, dAsg, gN, DL.gNil, DL.gCons, gTupD, dFor, vTurn, dUn, gNeg, dMul, vMul, isNew, gAdd, DL.gSub, gII, tt2, cdiv, gFdiv, cmod, gMod, cpow, gPow, gLt, gLe, gGt, gGe, gEq_ii, gNe_ii, dIsN, DL.isNon, dCh, vCh, vCh2, dON, dOS, dSl, vSl, gSubL, dAug, vAug, isFN, vPar, dPar, vM, dM, isL, mApp, mPopAt, mPop, gIdx, vTIdx, isT, dTIdx, gIx, dFn, vFn, ress, gLen, gIsi5, isTy, kn, gAll, gAny, gInt, gAbs, gMax2, gMin2, gSum, gMax1, gMin1, gSorted, gList, gTuple, dR1, dR2, vR1, vR2, dLRg, dTRg, dLenSet, vLenSet, dSeqI, vSeqI, itemsOf, dRng1, dRng2, vRng1, vRng2, dEnum, dZip2, dZip3, vEnum, vZip2, vZip3, dLC, vLC, dCall, vCall, frzM, cSl, cSls, upR, cRes, atsOf, fnD, ownIn_G, ownG_nil, ownG_fz, ownG_no, ownG_own, wipeE, dStep, lcStep, dYes, vFin, vOut, outR, outE, dLend, vLend, lendE, backE, flatR, lend_fzo, back_fzo, lend_fz, lend_no, lend_own1, lend_own0, back_fz, back_no, back_own1, back_own0, flat_ints, flatO_ints, yPlain, yNil, vYSeq, ySeq, vYield, yYield, yFor, vGen, fzE, gnD, noE, vListG, dListG, gAddI, gMulI, dLit, dFmt, vFmt, dJs, dJoin, gStr, dCallB, vCallB, keepOwn, isOwn, res, frz, frzs, flat, O.bind_ok, O.bind_bad, O.bind_exn, List.nodup_cons, List.nodup_nil, List.not_mem_nil, List.mem_cons, List.mem_singleton, not_false_eq_true, and_true, true_and, List.contains_cons, List.contains_nil, Nat.zero_add, List.getElem?_nil, List.getElem?_cons_zero, List.getElem?_cons_succ, List.set_cons_zero, List.set_cons_succ, Option.map_some, Option.map_none, if_true, if_false, Bool.and_true, Bool.true_and, Bool.and_false, Bool.false_and, Bool.or_true, Bool.true_or, Bool.or_false, Bool.false_or, Bool.not_true, Bool.not_false, List.length_cons, List.length_nil, List.append_nil, List.cons_append, List.nil_append, List.replicate_succ, List.replicate_zero, decide_true, decide_false, ↓reduceIte, Int.cast_ofNat_Int, Int.reduceLE, Int.reduceLT, Int.reduceToNat, Int.reduceAdd, Int.reduceSub, Int.reduceMul, Int.reduceNeg, Int.reduceEq, Int.reduceNe, Int.reduceBEq, Int.reduceBNe, Int.reduceGT, Int.reduceGE, ne_eq, Nat.reduceAdd, Nat.reduceLeDiff, Nat.reduceEqDiff, Nat.reduceSub, Nat.reduceMul, Nat.reduceLT, Nat.reduceBEq, String.reduceEq, reduceCtorEq, beq_self_eq_true, List.map_cons, List.map_nil, List.reverse_nil, r1]
  obtain ⟨ε', f1⟩ := f1
  have hf2 := hd.flat
  have e := dFresh_eq (i := 10) (n := 18) (r0 := (rsT n rs x p (hO hs) 0).map D.int) (g2 := q_law_1) (g4 := q_law_2) f1 (by rw [List.length_map, rsT_len (rs := rs) (x := x) (n := n)]; exact Nat.lt_of_le_of_lt p8 (by decide)) rfl (by decide) (by rw [m1]; exact q1) rfl
  have hbk : (backE [] 0 [A0, S1, .own d, .fz (gD rs x), .fz (.tup (rs.map tI)), S5, .fz (tI hs), .fz (.lst ((rsL n rs x p (hO hs)).map lI)), S8, S9, S10, S11, S12, S13, .no, .no, .no, .no] [A0, S1, .own d, .fz (gD rs x), .fz (.tup (rs.map tI)), S5, .fz (tI hs), .fz (.lst ((rsL n rs x p (hO hs)).map lI)), S8, S9, .fz (.lst ((rsL n rs x p (hO hs)).map lI)), S11, S12, S13, .no, .no, .no, .no]).set 10 .no =
      [backS false A0 A0, backS false S1 S1, .own d, .fz (gD rs x), .fz (.tup (rs.map tI)), backS false S5 S5, .fz (tI hs), .fz (.lst ((rsL n rs x p (hO hs)).map lI)), backS false S8 S8, backS false S9 S9, .no, backS false S11 S11, backS false S12 S12, backS false S13 S13, .no, .no, .no, .no] := by
    simp only [backE, List.contains_nil, back_fz, back_no, back_own0 d d hf2, List.set_cons_zero, List.set_cons_succ]
  obtain ⟨c9, c11, c12, c13, q2⟩ := q2_ok g hs hl hb (backS false A0 A0) (backS false S1 S1) (.own d) (backS false S5 S5) (backS false S8 S8) (backS false S9 S9) (backS false S11 S11) (backS false S12 S12) (backS false S13 S13)
  refine ⟨backS false S5 S5, backS false S8 S8, c9, .no, c11, c12, c13, backS false S1 S1, backS false A0 A0, ?_, rfl⟩
  show dFresh 10 18 [3, 6] _ q_law_1 q_law_2 _ = _
  refine e.trans ?_
  rw [hbk]
  exact q2
end
theorem x_cell (A0 : D) (c : Int) (s1 s2 s3 s4 s5 s6 s7 s8 s9 s10 s11 s12 s13 : Sl) :
    ∃ c1 c2 c3 c4 c5 c6 c7 c8 c9 c10 c11 c12 c13, dStep g_law_2 b_law_2 (.int c) [.fz A0, s1, s2, s3, s4, s5, s6, s7, s8, s9, s10, s11, s12, s13, .no, .no, .no, .no] = .ok .nx [.fz A0, c1, c2, c3, c4, c5, c6, c7, c8, c9, c10, c11, c12, c13, .no, .no, .no, .no] := by
  obtain ⟨d0, e0, h0⟩ := x_deck c 11 (by omega)
  obtain ⟨n, p, rs, x, d1, e1, g, h1⟩ := x_group 1000 d0 h0 (by omega)
  have p2 := g.p2
  have p8 := g.p8
  have lp := g.lp
  obtain ⟨hs, d2, l1, hl, hb, h2⟩ := L_shares (rs := rs) (1000 + 2000) d1 (.fz A0) (.fz (.int c)) (.fz (gD rs x)) (.fz (.tup (rs.map tI))) (.fz (tI x)) s6 s7 s8 s9 s10 s11 s12 s13 .no .no .no h1 (by omega)
  rw [lp] at hl
  obtain ⟨c8, c9, l2⟩ := L_due g hs hl hb (.fz A0) (.fz (.int c)) (.own d2) (.fz (gD rs x)) s10 s11 s12 s13 .no .no (List.range p) [] s8 s9 (fun i hi => List.mem_range.mp hi) (by rw [List.length_nil, List.length_range]; omega)
  rw [← zip_rows g.lp hl, List.nil_append, rsL_map] at l2
  obtain ⟨k5, k8, k9, k10, k11, k12, k13, k1, k0, l3, hk0⟩ := x_tail g hs hl hb _ d2 h2 (.fz A0) (.fz (.int c)) (.fz (tI x)) c8 c9 s10 s11 s12 s13
  rw [back_fz] at hk0
  subst hk0
  refine ⟨k1, .own d2, .fz (gD rs x), .fz (.tup (rs.map tI)), k5, .fz (tI hs), .fz (.lst ((rsL n rs x p (hO hs)).map lI)), k8, k9, k10, k11, k12, k13, ?_⟩
  have hr1 : rs.length ≤ 1000000 := by omega
  have hr2 : hs.length ≤ 1000000 := by omega
  have hz : (zip2D (rs.map tI) (hs.map D.int)).length ≤ 1000000 := by rw [zip_rows g.lp hl, List.length_map, List.length_range]; omega
  generalize hq : dLock 7 (dFresh 10 18 [3, 6] (dCall φ_results [false, false] (dCons (dVar 3) (dCons (dVar 6) dNil))) q_law_1 q_law_2) = q at l3
  unfold g_law_2 b_law_2
  rw [hq]
  unfold gD tI at *
  simp only [dVar, vSlot, dC, dOp2, vOp2, dOpA, vOpA, vAn, An.r, dTst, DL.vBool, vTru, dTru, truth, dAnd, dOr, dNot, dAndV, dOrV, dNotV, dIfE, dNil, dCons, dTup, vTup, dLst, vLst, dSkip, vSeq, dSeq, dIf, dRet, dDrop, vSto, vSet, dSet, vAsg, dAsg, gN, DL.gNil, DL.gCons, gTupD, dFor, vTurn, dUn, gNeg, dMul, vMul, isNew, gAdd, DL.gSub, gII, tt2, cdiv, gFdiv, cmod, gMod, cpow, gPow, gLt, gLe, gGt, gGe, gEq_ii, gNe_ii, dIsN, DL.isNon, dCh, vCh, vCh2, dON, dOS, dSl, vSl, gSubL, dAug, vAug, isFN, vPar, dPar, vM, dM, isL, mApp, mPopAt, mPop, gIdx, vTIdx, isT, dTIdx, gIx, dFn, vFn, ress, gLen, gIsi5, isTy, kn, gAll, gAny, gInt, gAbs, gMax2, gMin2, gSum, gMax1, gMin1, gSorted, gList, gTuple, dR1, dR2, vR1, vR2, dLRg, dTRg, dLenSet, vLenSet, dSeqI, vSeqI, itemsOf, dRng1, dRng2, vRng1, vRng2, dEnum, dZip2, dZip3, vEnum, vZip2, vZip3, dLC, vLC, dCall, vCall, frzM, cSl, cSls, upR, cRes, atsOf, fnD, ownIn_G, ownG_nil, ownG_fz, ownG_no, ownG_own, wipeE, dStep, lcStep, dYes, vFin, vOut, outR, outE, dLend, vLend, lendE, backE, flatR, lend_fzo, back_fzo, lend_fz, lend_no, lend_own1, lend_own0, back_fz, back_no, back_own1, back_own0, flat_ints, flatO_ints, yPlain, yNil, vYSeq, ySeq, vYield, yYield, yFor, vGen, fzE, gnD, noE, vListG, dListG, gAddI, gMulI, dLit, dFmt, vFmt, dJs, dJoin, gStr, dCallB, vCallB, keepOwn, isOwn, res, frz, frzs, flat, O.bind_ok, O.bind_bad, O.bind_exn, List.nodup_cons, List.nodup_nil, List.not_mem_nil, List.mem_cons, List.mem_singleton, not_false_eq_true, and_true, true_and, List.contains_cons, List.contains_nil, Nat.zero_add, List.getElem?_nil, List.getElem?_cons_zero, List.getElem?_cons_succ, List.set_cons_zero, List.set_cons_succ, Option.map_some, Option.map_none, if_true, if_false, Bool.and_true, Bool.true_and, Bool.and_false, Bool.false_and, Bool.or_true, Bool.true_or, Bool.or_false, Bool.false_or, Bool.not_true, Bool.not_false, List.length_cons, List.length_nil, List.append_nil, List.cons_append, List.nil_append, List.replicate_succ, List.replicate_zero, decide_true, decide_false, ↓reduceIte, Int.cast_ofNat_Int, Int.reduceLE, Int.reduceLT, Int.reduceToNat, Int.reduceAdd, Int.reduceSub, Int.reduceMul, Int.reduceNeg, Int.reduceEq, Int.reduceNe, Int.reduceBEq, Int.reduceBNe, Int.reduceGT, Int.reduceGE, ne_eq, Nat.reduceAdd, Nat.reduceLeDiff, Nat.reduceEqDiff, Nat.reduceSub, Nat.reduceMul, Nat.reduceLT, Nat.reduceBEq, String.reduceEq, reduceCtorEq, beq_self_eq_true, List.map_cons, List.map_nil, List.reverse_nil, e0, e1, l1, l2, l3, hr1, hr2, hz, List.length_map]

theorem L_cells (A0 : D) : ∀ (cs : List Int) (s1 s2 s3 s4 s5 s6 s7 s8 s9 s10 s11 s12 s13 : Sl), ∃ c1 c2 c3 c4 c5 c6 c7 c8 c9 c10 c11 c12 c13, dLoop g_law_2 b_law_2 (cs.map D.int) [.fz A0, s1, s2, s3, s4, s5, s6, s7, s8, s9, s10, s11, s12, s13, .no, .no, .no, .no] = .ok .nx [.fz A0, c1, c2, c3, c4, c5, c6, c7, c8, c9, c10, c11, c12, c13, .no, .no, .no, .no]
  | [], s1, s2, s3, s4, s5, s6, s7, s8, s9, s10, s11, s12, s13 => ⟨s1, s2, s3, s4, s5, s6, s7, s8, s9, s10, s11, s12, s13, rfl⟩
  | c :: cs, s1, s2, s3, s4, s5, s6, s7, s8, s9, s10, s11, s12, s13 => by
    obtain ⟨c1, c2, c3, c4, c5, c6, c7, c8, c9, c10, c11, c12, c13, st⟩ := x_cell A0 c s1 s2 s3 s4 s5 s6 s7 s8 s9 s10 s11 s12 s13
    obtain ⟨d1, d2, d3, d4, d5, d6, d7, d8, d9, d10, d11, d12, d13, e⟩ := L_cells A0 cs c1 c2 c3 c4 c5 c6 c7 c8 c9 c10 c11 c12 c13
    refine ⟨d1, d2, d3, d4, d5, d6, d7, d8, d9, d10, d11, d12, d13, ?_⟩
    rw [List.map_cons, dLoop_cons, st]
    exact e
def g3D : D := .tup [.tup [.tup [.int 4, .int 4, .int 4], .tup [.int 4, .int 5, .int 4], .tup [.int 5, .int 5, .int 5]], .tup [.int 1, .int 2, .int 3]]
def g2D : D := .tup [.tup [.tup [.int 4], .tup [.int 5]], .tup [.int 1]]
def endF (o : O R) (ls : List (List Int)) : Bool :=
  match o with
  | .ok (.new (.lst [.fl a, .fl b])) [.fz _, .fz _] => match toIs a, toIs b with
    | some u, some v => ls == [u, v]
    | _, _ => false
  | .ok (.new (.lst [.fl a, .fl b, .fl c])) [.fz _, .fz _] => match toIs a, toIs b, toIs c with
    | some u, some v, some w => ls == [u, v, w]
    | _, _, _ => false
  | _ => false
theorem endF_eq {o : O R} {ls : List (List Int)} (h : endF o ls = true) : ∃ a b, o = .ok (.new (.lst (ls.map fI))) [a, b] := by
  unfold endF at h
  split at h
  · rename_i a b x y
    split at h
    · rename_i u v e1 e2
      refine ⟨.fz x, .fz y, ?_⟩
      rw [toIs_map e1, toIs_map e2, eq_of_beq h]
      rfl
    · cases h
  · rename_i a b c x y
    split at h
    · rename_i u v w e1 e2 e3
      refine ⟨.fz x, .fz y, ?_⟩
      rw [toIs_map e1, toIs_map e2, toIs_map e3, eq_of_beq h]
      rfl
    · cases h
  · cases h
theorem end1 : endF (φ_results [.fz g3D, .fz (.tup [.int 0, .int 0, .int 0])]) [[0, 1, 3], [-1, 0, 2], [-3, -2, 0]] = true := by decide +kernel
theorem end2 : endF (φ_results [.fz g2D, .fz (.tup [.int 1000, .int (-1000)])]) [[0, 1], [-1, 0]] = true := by decide +kernel
theorem gEq_L (ls : List (List Int)) : gEq (.lst (ls.map lI)) (.lst (ls.map lI)) = some (.bl true) := by
  have h : okq (.lst (ls.map lI)) = true := by
    have := deps_L ls
    unfold okq sok dep
    rw [soks_L, Bool.true_and, decide_eq_true_eq]
    omega
  unfold gEq
  rw [h, if_pos (show (true && true) = true from rfl)]
  unfold deq
  rw [deqs_L]
theorem law_true (ns : List Int) (h : ns.length ≤ 63) : ∃ ε, φ_law [.fz (.lst (ns.map D.int))] = .ok (.fz (.bl true)) ε := by
  obtain ⟨c1, c2, c3, c4, c5, c6, c7, c8, c9, c10, c11, c12, c13, e⟩ := L_cells (.lst (ns.map D.int)) ((0 :: ns).take 8) .no .no .no .no .no .no .no .no .no .no .no .no .no
  refine ⟨[.fz (.lst (ns.map D.int))], ?_⟩
  have hb : 0 + 1 + (ns.map D.int).length ≤ big := by rw [List.length_map]; unfold big; omega
  have hc : cut (.int 0 :: ns.map D.int) none (some 8) = ((0 :: ns).take 8).map D.int := by
    have := cut_any (D.int 0 :: ns.map D.int) 8
    exact this.trans (by rw [← List.map_cons (f := D.int), List.map_take])
  obtain ⟨a1, b1, r1⟩ := endF_eq end1
  obtain ⟨a2, b2, r2⟩ := endF_eq end2
  have q1 := gNe_L [[0, 1, 3], [-1, 0, 2], [-3, -2, 0]]
  have q2 := gEq_L [[0, 1], [-1, 0]]
  unfold lI at q1 q2
  simp only [fI, List.map_cons, List.map_nil] at r1 r2 q1 q2
  unfold g3D at r1
  unfold g2D at r2
  unfold φ_law
  simp only [dVar, vSlot, dC, dOp2, vOp2, dOpA, vOpA, vAn, An.r, dTst, DL.vBool, vTru, dTru, truth, dAnd, dOr, dNot, dAndV, dOrV, dNotV, dIfE, dNil, dCons, dTup, vTup, dLst, vLst, dSkip, vSeq, dSeq, dIf, dRet, dDrop, vSto, vSet, dSet, vAsg, dAsg, gN, DL.gNil, DL.gCons, gTupD, dFor, vTurn, dUn, gNeg, dMul, vMul, isNew, gAdd, DL.gSub, gII, tt2, cdiv, gFdiv, cmod, gMod, cpow, gPow, gLt, gLe, gGt, gGe, dIsN, DL.isNon, dCh, vCh, vCh2, dON, dOS, dSl, vSl, gSubL, dAug, vAug, isFN, vPar, dPar, vM, dM, isL, mApp, mPopAt, mPop, gIdx, vTIdx, isT, dTIdx, gIx, dFn, vFn, ress, gLen, gIsi5, isTy, kn, gAll, gAny, gInt, gAbs, gMax2, gMin2, gSum, gMax1, gMin1, gSorted, gList, gTuple, dR1, dR2, vR1, vR2, dLRg, dTRg, dLenSet, vLenSet, dSeqI, vSeqI, itemsOf, dRng1, dRng2, vRng1, vRng2, dEnum, dZip2, dZip3, vEnum, vZip2, vZip3, dLC, vLC, dCall, vCall, frzM, cSl, cSls, upR, cRes, atsOf, fnD, ownIn_G, ownG_nil, ownG_fz, ownG_no, ownG_own, wipeE, dStep, lcStep, dYes, vFin, vOut, outR, outE, dLend, vLend, lendE, backE, flatR, lend_fzo, back_fzo, lend_fz, lend_no, lend_own1, lend_own0, back_fz, back_no, back_own1, back_own0, flat_ints, flatO_ints, yPlain, yNil, vYSeq, ySeq, vYield, yYield, yFor, vGen, fzE, gnD, noE, vListG, dListG, gAddI, gMulI, dLit, dFmt, vFmt, dJs, dJoin, gStr, dCallB, vCallB, keepOwn, isOwn, res, frz, frzs, flat, O.bind_ok, O.bind_bad, O.bind_exn, List.nodup_cons, List.nodup_nil, List.not_mem_nil, List.mem_cons, List.mem_singleton, not_false_eq_true, and_true, true_and, List.contains_cons, List.contains_nil, Nat.zero_add, List.getElem?_nil, List.getElem?_cons_zero, List.getElem?_cons_succ, List.set_cons_zero, List.set_cons_succ, Option.map_some, Option.map_none, if_true, if_false, Bool.and_true, Bool.true_and, Bool.and_false, Bool.false_and, Bool.or_true, Bool.true_or, Bool.or_false, Bool.false_or, Bool.not_true, Bool.not_false, List.length_cons, List.length_nil, List.append_nil, List.cons_append, List.nil_append, List.replicate_succ, List.replicate_zero, decide_true, decide_false, ↓reduceIte, Int.cast_ofNat_Int, Int.reduceLE, Int.reduceLT, Int.reduceToNat, Int.reduceAdd, Int.reduceSub, Int.reduceMul, Int.reduceNeg, Int.reduceEq, Int.reduceNe, Int.reduceBEq, Int.reduceBNe, Int.reduceGT, Int.reduceGE, ne_eq, Nat.reduceAdd, Nat.reduceLeDiff, Nat.reduceEqDiff, Nat.reduceSub, Nat.reduceMul, Nat.reduceLT, Nat.reduceBEq, String.reduceEq, reduceCtorEq, beq_self_eq_true, List.map_cons, List.map_nil, List.reverse_nil, hb, hc, e, r1, r2, q1, q2, dWk, vWk, wk1]

end K11

namespace K11
open PySem PySem.Spec PyProof.Rows L2 DL
def T0 : Tab := ⟨fun _ => 0, fun _ => 0⟩
theorem all_mk {l : PySem.W.OpenLaw} {w : World} {K : PySem.W.Frag} {h : Heap} {mg : Str → Option Value} {fa : Addr} (X : K.In h) (G : h.Ns mainGlobals mg) (hfa : mg "law" = some (.ref fa))
    {f0 : Addr} {od0 an0 : Option Addr} {sl0 : Array (Option Value)} {oc0 kV0 dc0 pm0 cd0 ct0 : Value}
    (a0 : PySem.W.nsIn K mainGlobals "_law_deck" = some (some (.ref f0))) (l0 : K.lookup f0 = some ⟨oc0, od0, .func (PySem.W.fnOf "_law_deck" "_law_deck" (defArgs s__law_deck) (defBody s__law_deck) (defScope s__law_deck) .none kV0 dc0 pm0 an0 cd0 ct0), sl0⟩) (c0 : PySem.W.codeIn K cd0 "_law_deck" = true) (k0 : PySem.W.keepIn K (.ref f0) = true)
    {f1 : Addr} {od1 an1 : Option Addr} {sl1 : Array (Option Value)} {oc1 kV1 dc1 pm1 cd1 ct1 : Value}
    (a1 : PySem.W.nsIn K mainGlobals "_law_pick" = some (some (.ref f1))) (l1 : K.lookup f1 = some ⟨oc1, od1, .func (PySem.W.fnOf "_law_pick" "_law_pick" (defArgs s__law_pick) (defBody s__law_pick) (defScope s__law_pick) .none kV1 dc1 pm1 an1 cd1 ct1), sl1⟩) (c1 : PySem.W.codeIn K cd1 "_law_pick" = true) (k1 : PySem.W.keepIn K (.ref f1) = true)
    {f2 : Addr} {od2 an2 : Option Addr} {sl2 : Array (Option Value)} {oc2 kV2 dc2 pm2 cd2 ct2 : Value}
    (a2 : PySem.W.nsIn K mainGlobals "_law_one" = some (some (.ref f2))) (l2 : K.lookup f2 = some ⟨oc2, od2, .func (PySem.W.fnOf "_law_one" "_law_one" (defArgs s__law_one) (defBody s__law_one) (defScope s__law_one) .none kV2 dc2 pm2 an2 cd2 ct2), sl2⟩) (c2 : PySem.W.codeIn K cd2 "_law_one" = true) (k2 : PySem.W.keepIn K (.ref f2) = true)
    {f3 : Addr} {od3 an3 : Option Addr} {sl3 : Array (Option Value)} {oc3 kV3 dc3 pm3 cd3 ct3 : Value}
    (a3 : PySem.W.nsIn K mainGlobals "_law_scores" = some (some (.ref f3))) (l3 : K.lookup f3 = some ⟨oc3, od3, .func (PySem.W.fnOf "_law_scores" "_law_scores" (defArgs s__law_scores) (defBody s__law_scores) (defScope s__law_scores) .none kV3 dc3 pm3 an3 cd3 ct3), sl3⟩) (c3 : PySem.W.codeIn K cd3 "_law_scores" = true) (k3 : PySem.W.keepIn K (.ref f3) = true)
    {f4 : Addr} {od4 an4 : Option Addr} {sl4 : Array (Option Value)} {oc4 kV4 dc4 pm4 cd4 ct4 : Value}
    (a4 : PySem.W.nsIn K mainGlobals "_law_index" = some (some (.ref f4))) (l4 : K.lookup f4 = some ⟨oc4, od4, .func (PySem.W.fnOf "_law_index" "_law_index" (defArgs s__law_index) (defBody s__law_index) (defScope s__law_index) .none kV4 dc4 pm4 an4 cd4 ct4), sl4⟩) (c4 : PySem.W.codeIn K cd4 "_law_index" = true) (k4 : PySem.W.keepIn K (.ref f4) = true)
    {f5 : Addr} {od5 an5 : Option Addr} {sl5 : Array (Option Value)} {oc5 kV5 dc5 pm5 cd5 ct5 : Value}
    (a5 : PySem.W.nsIn K mainGlobals "_law_match" = some (some (.ref f5))) (l5 : K.lookup f5 = some ⟨oc5, od5, .func (PySem.W.fnOf "_law_match" "_law_match" (defArgs s__law_match) (defBody s__law_match) (defScope s__law_match) .none kV5 dc5 pm5 an5 cd5 ct5), sl5⟩) (c5 : PySem.W.codeIn K cd5 "_law_match" = true) (k5 : PySem.W.keepIn K (.ref f5) = true)
    {f6 : Addr} {od6 an6 : Option Addr} {sl6 : Array (Option Value)} {oc6 kV6 dc6 pm6 cd6 ct6 : Value}
    (a6 : PySem.W.nsIn K mainGlobals "_law_group" = some (some (.ref f6))) (l6 : K.lookup f6 = some ⟨oc6, od6, .func (PySem.W.fnOf "_law_group" "_law_group" (defArgs s__law_group) (defBody s__law_group) (defScope s__law_group) .none kV6 dc6 pm6 an6 cd6 ct6), sl6⟩) (c6 : PySem.W.codeIn K cd6 "_law_group" = true) (k6 : PySem.W.keepIn K (.ref f6) = true)
    {f7 : Addr} {od7 an7 : Option Addr} {sl7 : Array (Option Value)} {oc7 kV7 dc7 pm7 cd7 ct7 : Value}
    (a7 : PySem.W.nsIn K mainGlobals "is_from" = some (some (.ref f7))) (l7 : K.lookup f7 = some ⟨oc7, od7, .func (PySem.W.fnOf "is_from" "is_from" (defArgs s_is_from) (defBody s_is_from) (defScope s_is_from) .none kV7 dc7 pm7 an7 cd7 ct7), sl7⟩) (c7 : PySem.W.codeIn K cd7 "is_from" = true) (k7 : PySem.W.keepIn K (.ref f7) = true)
    {f8 : Addr} {od8 an8 : Option Addr} {sl8 : Array (Option Value)} {oc8 kV8 dc8 pm8 cd8 ct8 : Value}
    (a8 : PySem.W.nsIn K mainGlobals "good_index" = some (some (.ref f8))) (l8 : K.lookup f8 = some ⟨oc8, od8, .func (PySem.W.fnOf "good_index" "good_index" (defArgs s_good_index) (defBody s_good_index) (defScope s_good_index) .none kV8 dc8 pm8 an8 cd8 ct8), sl8⟩) (c8 : PySem.W.codeIn K cd8 "good_index" = true) (k8 : PySem.W.keepIn K (.ref f8) = true)
    {f9 : Addr} {od9 an9 : Option Addr} {sl9 : Array (Option Value)} {oc9 kV9 dc9 pm9 cd9 ct9 : Value}
    (a9 : PySem.W.nsIn K mainGlobals "good_scores" = some (some (.ref f9))) (l9 : K.lookup f9 = some ⟨oc9, od9, .func (PySem.W.fnOf "good_scores" "good_scores" (defArgs s_good_scores) (defBody s_good_scores) (defScope s_good_scores) .none kV9 dc9 pm9 an9 cd9 ct9), sl9⟩) (c9 : PySem.W.codeIn K cd9 "good_scores" = true) (k9 : PySem.W.keepIn K (.ref f9) = true)
    {f10 : Addr} {od10 an10 : Option Addr} {sl10 : Array (Option Value)} {oc10 kV10 dc10 pm10 cd10 ct10 : Value}
    (a10 : PySem.W.nsIn K mainGlobals "is_group" = some (some (.ref f10))) (l10 : K.lookup f10 = some ⟨oc10, od10, .func (PySem.W.fnOf "is_group" "is_group" (defArgs s_is_group) (defBody s_is_group) (defScope s_is_group) .none kV10 dc10 pm10 an10 cd10 ct10), sl10⟩) (c10 : PySem.W.codeIn K cd10 "is_group" = true) (k10 : PySem.W.keepIn K (.ref f10) = true)
    {f11 : Addr} {od11 an11 : Option Addr} {sl11 : Array (Option Value)} {oc11 kV11 dc11 pm11 cd11 ct11 : Value}
    (a11 : PySem.W.nsIn K mainGlobals "good_handicaps" = some (some (.ref f11))) (l11 : K.lookup f11 = some ⟨oc11, od11, .func (PySem.W.fnOf "good_handicaps" "good_handicaps" (defArgs s_good_handicaps) (defBody s_good_handicaps) (defScope s_good_handicaps) .none kV11 dc11 pm11 an11 cd11 ct11), sl11⟩) (c11 : PySem.W.codeIn K cd11 "good_handicaps" = true) (k11 : PySem.W.keepIn K (.ref f11) = true)
    {f12 : Addr} {od12 an12 : Option Addr} {sl12 : Array (Option Value)} {oc12 kV12 dc12 pm12 cd12 ct12 : Value}
    (a12 : PySem.W.nsIn K mainGlobals "sign" = some (some (.ref f12))) (l12 : K.lookup f12 = some ⟨oc12, od12, .func (PySem.W.fnOf "sign" "sign" (defArgs s_sign) (defBody s_sign) (defScope s_sign) .none kV12 dc12 pm12 an12 cd12 ct12), sl12⟩) (c12 : PySem.W.codeIn K cd12 "sign" = true) (k12 : PySem.W.keepIn K (.ref f12) = true)
    {f13 : Addr} {od13 an13 : Option Addr} {sl13 : Array (Option Value)} {oc13 kV13 dc13 pm13 cd13 ct13 : Value}
    (a13 : PySem.W.nsIn K mainGlobals "at_hole" = some (some (.ref f13))) (l13 : K.lookup f13 = some ⟨oc13, od13, .func (PySem.W.fnOf "at_hole" "at_hole" (defArgs s_at_hole) (defBody s_at_hole) (defScope s_at_hole) .none kV13 dc13 pm13 an13 cd13 ct13), sl13⟩) (c13 : PySem.W.codeIn K cd13 "at_hole" = true) (k13 : PySem.W.keepIn K (.ref f13) = true)
    {f14 : Addr} {od14 an14 : Option Addr} {sl14 : Array (Option Value)} {oc14 kV14 dc14 pm14 cd14 ct14 : Value}
    (a14 : PySem.W.nsIn K mainGlobals "holes_of" = some (some (.ref f14))) (l14 : K.lookup f14 = some ⟨oc14, od14, .func (PySem.W.fnOf "holes_of" "holes_of" (defArgs s_holes_of) (defBody s_holes_of) (defScope s_holes_of) .none kV14 dc14 pm14 an14 cd14 ct14), sl14⟩) (c14 : PySem.W.codeIn K cd14 "holes_of" = true) (k14 : PySem.W.keepIn K (.ref f14) = true)
    {f15 : Addr} {od15 an15 : Option Addr} {sl15 : Array (Option Value)} {oc15 kV15 dc15 pm15 cd15 ct15 : Value}
    (a15 : PySem.W.nsIn K mainGlobals "match_of" = some (some (.ref f15))) (l15 : K.lookup f15 = some ⟨oc15, od15, .func (PySem.W.fnOf "match_of" "match_of" (defArgs s_match_of) (defBody s_match_of) (defScope s_match_of) .none kV15 dc15 pm15 an15 cd15 ct15), sl15⟩) (c15 : PySem.W.codeIn K cd15 "match_of" = true) (k15 : PySem.W.keepIn K (.ref f15) = true)
    {f16 : Addr} {od16 an16 : Option Addr} {sl16 : Array (Option Value)} {oc16 kV16 dc16 pm16 cd16 ct16 : Value}
    (a16 : PySem.W.nsIn K mainGlobals "results" = some (some (.ref f16))) (l16 : K.lookup f16 = some ⟨oc16, od16, .func (PySem.W.fnOf "results" "results" (defArgs s_results) (defBody s_results) (defScope s_results) .none kV16 dc16 pm16 an16 cd16 ct16), sl16⟩) (c16 : PySem.W.codeIn K cd16 "results" = true) (k16 : PySem.W.keepIn K (.ref f16) = true)
    {f17 : Addr} {od17 an17 : Option Addr} {sl17 : Array (Option Value)} {oc17 kV17 dc17 pm17 cd17 ct17 : Value}
    (a17 : PySem.W.nsIn K mainGlobals "all_halved" = some (some (.ref f17))) (l17 : K.lookup f17 = some ⟨oc17, od17, .func (PySem.W.fnOf "all_halved" "all_halved" (defArgs s_all_halved) (defBody s_all_halved) (defScope s_all_halved) .none kV17 dc17 pm17 an17 cd17 ct17), sl17⟩) (c17 : PySem.W.codeIn K cd17 "all_halved" = true) (k17 : PySem.W.keepIn K (.ref f17) = true)
    {f18 : Addr} {od18 an18 : Option Addr} {sl18 : Array (Option Value)} {oc18 kV18 dc18 pm18 cd18 ct18 : Value}
    (a18 : PySem.W.nsIn K mainGlobals "_law_sort" = some (some (.ref f18))) (l18 : K.lookup f18 = some ⟨oc18, od18, .func (PySem.W.fnOf "_law_sort" "_law_sort" (defArgs s__law_sort) (defBody s__law_sort) (defScope s__law_sort) .none kV18 dc18 pm18 an18 cd18 ct18), sl18⟩) (c18 : PySem.W.codeIn K cd18 "_law_sort" = true) (k18 : PySem.W.keepIn K (.ref f18) = true)
    {f19 : Addr} {od19 an19 : Option Addr} {sl19 : Array (Option Value)} {oc19 kV19 dc19 pm19 cd19 ct19 : Value}
    (a19 : PySem.W.nsIn K mainGlobals "_law_same" = some (some (.ref f19))) (l19 : K.lookup f19 = some ⟨oc19, od19, .func (PySem.W.fnOf "_law_same" "_law_same" (defArgs s__law_same) (defBody s__law_same) (defScope s__law_same) .none kV19 dc19 pm19 an19 cd19 ct19), sl19⟩) (c19 : PySem.W.codeIn K cd19 "_law_same" = true) (k19 : PySem.W.keepIn K (.ref f19) = true)
    {f20 : Addr} {od20 an20 : Option Addr} {sl20 : Array (Option Value)} {oc20 kV20 dc20 pm20 cd20 ct20 : Value}
    (a20 : PySem.W.nsIn K mainGlobals "_law_given" = some (some (.ref f20))) (l20 : K.lookup f20 = some ⟨oc20, od20, .func (PySem.W.fnOf "_law_given" "_law_given" (defArgs s__law_given) (defBody s__law_given) (defScope s__law_given) .none kV20 dc20 pm20 an20 cd20 ct20), sl20⟩) (c20 : PySem.W.codeIn K cd20 "_law_given" = true) (k20 : PySem.W.keepIn K (.ref f20) = true)
    {f21 : Addr} {od21 an21 : Option Addr} {sl21 : Array (Option Value)} {oc21 kV21 dc21 pm21 cd21 ct21 : Value}
    (a21 : PySem.W.nsIn K mainGlobals "_law_points" = some (some (.ref f21))) (l21 : K.lookup f21 = some ⟨oc21, od21, .func (PySem.W.fnOf "_law_points" "_law_points" (defArgs s__law_points) (defBody s__law_points) (defScope s__law_points) .none kV21 dc21 pm21 an21 cd21 ct21), sl21⟩) (c21 : PySem.W.codeIn K cd21 "_law_points" = true) (k21 : PySem.W.keepIn K (.ref f21) = true)
    {f22 : Addr} {od22 an22 : Option Addr} {sl22 : Array (Option Value)} {oc22 kV22 dc22 pm22 cd22 ct22 : Value}
    (a22 : PySem.W.nsIn K mainGlobals "_law_score" = some (some (.ref f22))) (l22 : K.lookup f22 = some ⟨oc22, od22, .func (PySem.W.fnOf "_law_score" "_law_score" (defArgs s__law_score) (defBody s__law_score) (defScope s__law_score) .none kV22 dc22 pm22 an22 cd22 ct22), sl22⟩) (c22 : PySem.W.codeIn K cd22 "_law_score" = true) (k22 : PySem.W.keepIn K (.ref f22) = true)
    {f23 : Addr} {od23 an23 : Option Addr} {sl23 : Array (Option Value)} {oc23 kV23 dc23 pm23 cd23 ct23 : Value}
    (a23 : PySem.W.nsIn K mainGlobals "law" = some (some (.ref f23))) (l23 : K.lookup f23 = some ⟨oc23, od23, .func (PySem.W.fnOf "law" "law" (defArgs s_law) (defBody s_law) (defScope s_law) .none kV23 dc23 pm23 an23 cd23 ct23), sl23⟩) (c23 : PySem.W.codeIn K cd23 "law" = true) (k23 : PySem.W.keepIn K (.ref f23) = true)
    {u_HIGHEST : Tok} (i_HIGHEST : PySem.W.nsIn K mainGlobals "HIGHEST" = some (some (.int 15 u_HIGHEST)))
    {u_MOST_HANDICAP : Tok} (i_MOST_HANDICAP : PySem.W.nsIn K mainGlobals "MOST_HANDICAP" = some (some (.int 1000 u_MOST_HANDICAP)))
    {u_MOST_HOLES : Tok} (i_MOST_HOLES : PySem.W.nsIn K mainGlobals "MOST_HOLES" = some (some (.int 18 u_MOST_HOLES)))
    {u_MOST_PLAYERS : Tok} (i_MOST_PLAYERS : PySem.W.nsIn K mainGlobals "MOST_PLAYERS" = some (some (.int 8 u_MOST_PLAYERS)))
    (z_abs : PySem.W.nsIn K mainGlobals "abs" = some none)
    (z_all : PySem.W.nsIn K mainGlobals "all" = some none)
    (z_bool : PySem.W.nsIn K mainGlobals "bool" = some none)
    (z_enumerate : PySem.W.nsIn K mainGlobals "enumerate" = some none)
    (z_int : PySem.W.nsIn K mainGlobals "int" = some none)
    (z_isinstance : PySem.W.nsIn K mainGlobals "isinstance" = some none)
    (z_len : PySem.W.nsIn K mainGlobals "len" = some none)
    (z_list : PySem.W.nsIn K mainGlobals "list" = some none)
    (z_max : PySem.W.nsIn K mainGlobals "max" = some none)
    (z_min : PySem.W.nsIn K mainGlobals "min" = some none)
    (z_range : PySem.W.nsIn K mainGlobals "range" = some none)
    (z_set : PySem.W.nsIn K mainGlobals "set" = some none)
    (z_sorted : PySem.W.nsIn K mainGlobals "sorted" = some none)
    (z_str : PySem.W.nsIn K mainGlobals "str" = some none)
    (z_sum : PySem.W.nsIn K mainGlobals "sum" = some none)
    (z_tuple : PySem.W.nsIn K mainGlobals "tuple" = some none)
    (z_zip : PySem.W.nsIn K mainGlobals "zip" = some none)
    : ∃ fd : FuncData, (∀ (s : Shared) (v : Value), BindsTo s fd ⟨[v], []⟩ [("_law_script", v)]) ∧ ∀ base : Heap, K.In base → base.Ns mainGlobals mg → FnOk l.prog w K mg base (L2.CX l.prog w) 9 fa fd ["_law_script"] (spD K T0 1 φ_law) := by
  have e := hfa.symm.trans (PySem.W.mg_of X G a23)
  cases e
  have F0 := fun_mk (st := s__law_deck) l0 c0 k0
  have b0 := F0.binds (ps := ["_law_cell", "_law_turn"]) fun _ _ _ _ _ _ us hl => match us, hl with | [_, _], _ => rfl
  have F1 := fun_mk (st := s__law_pick) l1 c1 k1
  have b1 := F1.binds (ps := ["_law_deck_here", "_law_limit"]) fun _ _ _ _ _ _ us hl => match us, hl with | [_, _], _ => rfl
  have F2 := fun_mk (st := s__law_one) l2 c2 k2
  have b2 := F2.binds (ps := ["_law_deck_here", "_law_some"]) fun _ _ _ _ _ _ us hl => match us, hl with | [_, _], _ => rfl
  have F3 := fun_mk (st := s__law_scores) l3 c3 k3
  have b3 := F3.binds (ps := ["_law_deck_here", "_law_count", "_law_wide"]) fun _ _ _ _ _ _ us hl => match us, hl with | [_, _, _], _ => rfl
  have F4 := fun_mk (st := s__law_index) l4 c4 k4
  have b4 := F4.binds (ps := ["_law_deck_here", "_law_count"]) fun _ _ _ _ _ _ us hl => match us, hl with | [_, _], _ => rfl
  have F5 := fun_mk (st := s__law_match) l5 c5 k5
  have b5 := F5.binds (ps := ["_law_deck_here", "_law_few", "_law_many"]) fun _ _ _ _ _ _ us hl => match us, hl with | [_, _, _], _ => rfl
  have F6 := fun_mk (st := s__law_group) l6 c6 k6
  have b6 := F6.binds (ps := ["_law_deck_here", "_law_few", "_law_many", "_law_holes"]) fun _ _ _ _ _ _ us hl => match us, hl with | [_, _, _, _], _ => rfl
  have F7 := fun_mk (st := s_is_from) l7 c7 k7
  have b7 := F7.binds (ps := ["value", "low", "high"]) fun _ _ _ _ _ _ us hl => match us, hl with | [_, _, _], _ => rfl
  have F8 := fun_mk (st := s_good_index) l8 c8 k8
  have b8 := F8.binds (ps := ["count", "value"]) fun _ _ _ _ _ _ us hl => match us, hl with | [_, _], _ => rfl
  have F9 := fun_mk (st := s_good_scores) l9 c9 k9
  have b9 := F9.binds (ps := ["value"]) fun _ _ _ _ _ _ us hl => match us, hl with | [_], _ => rfl
  have F10 := fun_mk (st := s_is_group) l10 c10 k10
  have b10 := F10.binds (ps := ["value"]) fun _ _ _ _ _ _ us hl => match us, hl with | [_], _ => rfl
  have F11 := fun_mk (st := s_good_handicaps) l11 c11 k11
  have b11 := F11.binds (ps := ["group", "value"]) fun _ _ _ _ _ _ us hl => match us, hl with | [_, _], _ => rfl
  have F12 := fun_mk (st := s_sign) l12 c12 k12
  have b12 := F12.binds (ps := ["number"]) fun _ _ _ _ _ _ us hl => match us, hl with | [_], _ => rfl
  have F13 := fun_mk (st := s_at_hole) l13 c13 k13
  have b13 := F13.binds (ps := ["count", "place", "strokes"]) fun _ _ _ _ _ _ us hl => match us, hl with | [_, _, _], _ => rfl
  have F14 := fun_mk (st := s_holes_of) l14 c14 k14
  have b14 := F14.binds (ps := ["match", "strokes"]) fun _ _ _ _ _ _ us hl => match us, hl with | [_, _], _ => rfl
  have F15 := fun_mk (st := s_match_of) l15 c15 k15
  have b15 := F15.binds (ps := ["group", "one", "other"]) fun _ _ _ _ _ _ us hl => match us, hl with | [_, _, _], _ => rfl
  have F16 := fun_mk (st := s_results) l16 c16 k16
  have b16 := F16.binds (ps := ["group", "handicaps"]) fun _ _ _ _ _ _ us hl => match us, hl with | [_, _], _ => rfl
  have F17 := fun_mk (st := s_all_halved) l17 c17 k17
  have b17 := F17.binds (ps := ["group"]) fun _ _ _ _ _ _ us hl => match us, hl with | [_], _ => rfl
  have F18 := fun_mk (st := s__law_sort) l18 c18 k18
  have b18 := F18.binds (ps := ["_law_thing"]) fun _ _ _ _ _ _ us hl => match us, hl with | [_], _ => rfl
  have F19 := fun_mk (st := s__law_same) l19 c19 k19
  have b19 := F19.binds (ps := ["_law_told", "_law_due"]) fun _ _ _ _ _ _ us hl => match us, hl with | [_, _], _ => rfl
  have F20 := fun_mk (st := s__law_given) l20 c20 k20
  have b20 := F20.binds (ps := ["_law_index_here", "_law_strokes"]) fun _ _ _ _ _ _ us hl => match us, hl with | [_, _], _ => rfl
  have F21 := fun_mk (st := s__law_points) l21 c21 k21
  have b21 := F21.binds (ps := ["_law_match_here", "_law_strokes"]) fun _ _ _ _ _ _ us hl => match us, hl with | [_, _], _ => rfl
  have F22 := fun_mk (st := s__law_score) l22 c22 k22
  have b22 := F22.binds (ps := ["_law_match_here", "_law_strokes"]) fun _ _ _ _ _ _ us hl => match us, hl with | [_, _], _ => rfl
  have F23 := fun_mk (st := s_law) l23 c23 k23
  have b23 := F23.binds (ps := ["_law_script"]) fun _ _ _ _ _ _ us hl => match us, hl with | [_], _ => rfl
  let M : Md K mg := {
    f__law_deck := f0, d__law_deck := _, F__law_deck := F0, b__law_deck := b0, g__law_deck := PySem.W.mg_of X G a0,
    f__law_pick := f1, d__law_pick := _, F__law_pick := F1, b__law_pick := b1, g__law_pick := PySem.W.mg_of X G a1,
    f__law_one := f2, d__law_one := _, F__law_one := F2, b__law_one := b2, g__law_one := PySem.W.mg_of X G a2,
    f__law_scores := f3, d__law_scores := _, F__law_scores := F3, b__law_scores := b3, g__law_scores := PySem.W.mg_of X G a3,
    f__law_index := f4, d__law_index := _, F__law_index := F4, b__law_index := b4, g__law_index := PySem.W.mg_of X G a4,
    f__law_match := f5, d__law_match := _, F__law_match := F5, b__law_match := b5, g__law_match := PySem.W.mg_of X G a5,
    f__law_group := f6, d__law_group := _, F__law_group := F6, b__law_group := b6, g__law_group := PySem.W.mg_of X G a6,
    f_is_from := f7, d_is_from := _, F_is_from := F7, b_is_from := b7, g_is_from := PySem.W.mg_of X G a7,
    f_good_index := f8, d_good_index := _, F_good_index := F8, b_good_index := b8, g_good_index := PySem.W.mg_of X G a8,
    f_good_scores := f9, d_good_scores := _, F_good_scores := F9, b_good_scores := b9, g_good_scores := PySem.W.mg_of X G a9,
    f_is_group := f10, d_is_group := _, F_is_group := F10, b_is_group := b10, g_is_group := PySem.W.mg_of X G a10,
    f_good_handicaps := f11, d_good_handicaps := _, F_good_handicaps := F11, b_good_handicaps := b11, g_good_handicaps := PySem.W.mg_of X G a11,
    f_sign := f12, d_sign := _, F_sign := F12, b_sign := b12, g_sign := PySem.W.mg_of X G a12,
    f_at_hole := f13, d_at_hole := _, F_at_hole := F13, b_at_hole := b13, g_at_hole := PySem.W.mg_of X G a13,
    f_holes_of := f14, d_holes_of := _, F_holes_of := F14, b_holes_of := b14, g_holes_of := PySem.W.mg_of X G a14,
    f_match_of := f15, d_match_of := _, F_match_of := F15, b_match_of := b15, g_match_of := PySem.W.mg_of X G a15,
    f_results := f16, d_results := _, F_results := F16, b_results := b16, g_results := PySem.W.mg_of X G a16,
    f_all_halved := f17, d_all_halved := _, F_all_halved := F17, b_all_halved := b17, g_all_halved := PySem.W.mg_of X G a17,
    f__law_sort := f18, d__law_sort := _, F__law_sort := F18, b__law_sort := b18, g__law_sort := PySem.W.mg_of X G a18,
    f__law_same := f19, d__law_same := _, F__law_same := F19, b__law_same := b19, g__law_same := PySem.W.mg_of X G a19,
    f__law_given := f20, d__law_given := _, F__law_given := F20, b__law_given := b20, g__law_given := PySem.W.mg_of X G a20,
    f__law_points := f21, d__law_points := _, F__law_points := F21, b__law_points := b21, g__law_points := PySem.W.mg_of X G a21,
    f__law_score := f22, d__law_score := _, F__law_score := F22, b__law_score := b22, g__law_score := PySem.W.mg_of X G a22,
    f_law := fa, d_law := _, F_law := F23, b_law := b23, g_law := PySem.W.mg_of X G a23,
    t_HIGHEST := u_HIGHEST, c_HIGHEST := PySem.W.mg_of X G i_HIGHEST,
    t_MOST_HANDICAP := u_MOST_HANDICAP, c_MOST_HANDICAP := PySem.W.mg_of X G i_MOST_HANDICAP,
    t_MOST_HOLES := u_MOST_HOLES, c_MOST_HOLES := PySem.W.mg_of X G i_MOST_HOLES,
    t_MOST_PLAYERS := u_MOST_PLAYERS, c_MOST_PLAYERS := PySem.W.mg_of X G i_MOST_PLAYERS,
    n_abs := PySem.W.mg_none_of X G z_abs,
    n_all := PySem.W.mg_none_of X G z_all,
    n_bool := PySem.W.mg_none_of X G z_bool,
    n_enumerate := PySem.W.mg_none_of X G z_enumerate,
    n_int := PySem.W.mg_none_of X G z_int,
    n_isinstance := PySem.W.mg_none_of X G z_isinstance,
    n_len := PySem.W.mg_none_of X G z_len,
    n_list := PySem.W.mg_none_of X G z_list,
    n_max := PySem.W.mg_none_of X G z_max,
    n_min := PySem.W.mg_none_of X G z_min,
    n_range := PySem.W.mg_none_of X G z_range,
    n_set := PySem.W.mg_none_of X G z_set,
    n_sorted := PySem.W.mg_none_of X G z_sorted,
    n_str := PySem.W.mg_none_of X G z_str,
    n_sum := PySem.W.mg_none_of X G z_sum,
    n_tuple := PySem.W.mg_none_of X G z_tuple,
    n_zip := PySem.W.mg_none_of X G z_zip
  }
  exact ⟨_, fun s v => .of_eq rfl, fun base _ _ => ok_law M⟩
theorem walk {l : PySem.W.OpenLaw} {q : Program} {loose : List Str} {XP : (Str → Option Value) → Heap → Prop} {YP : World → Heap → Prop} {d : DefRec} {K : Params → PySem.W.Frag} (hn : l.most = some 63) (hdf : d.params.defaults = [])
    (hY : ∀ (w : World) (h : Heap), YP w h → (K w.params).In h)
    (F : ∀ (w : World) (mg : Str → Option Value) (fa : Addr) (h : Heap), (K w.params).In h → h.Ns mainGlobals mg → mg d.name = some (.ref fa) →
      ∃ fd : FuncData, (∀ (s : Shared) (u : Value), BindsTo s fd ⟨[u], []⟩ [("_law_script", u)]) ∧ ∀ base : Heap, (K w.params).In base → base.Ns mainGlobals mg → FnOk l.prog w (K w.params) mg base (L2.CX l.prog w) 9 fa fd ["_law_script"] (spD (K w.params) T0 1 φ_law)) :
    PySem.W.WalkO q loose XP YP l.row.toRowW d [] (fun f vs => PySem.call f vs) :=
  L2.walk_of (n := 63) (k := 9) (x := "_law_script") (CX := fun w => L2.CX l.prog w) (sp := fun w => spD (K w.params) T0 1 φ_law) hn (by decide) hdf ⟨rfl, by decide, by decide⟩ hY F (fun _ _ a ns hl _ hS => sp_law hS (law_true ns hl)) fun _ _ _ _ _ ⟨_, _, _, _, _, _, _, _, _, _, _, _, z⟩ => z
end K11
open PySem PySem.W PyProof.Rows in
set_option maxRecDepth 100000 in
set_option maxHeartbeats 0 in
theorem PySem.Challenge.cw_strokeholes_k11_results_of_groups_holds : PySem.Challenge.rw_strokeholes_k11_results_of_groups.Holds := by
  w_on; o_law; k_head; (case hw => w_witness2)
  k_fill
  refine K11.walk (l := PySem.Challenge.rw_strokeholes_k11_results_of_groups) rfl rfl (fun w h Y => PySem.W.kIn_of Y) ?F
  case F =>
    intro w mg fa h KX G hmg
    refine' K11.all_mk KX G hmg ?a0 ?l0 ?c0 ?k0 ?a1 ?l1 ?c1 ?k1 ?a2 ?l2 ?c2 ?k2 ?a3 ?l3 ?c3 ?k3 ?a4 ?l4 ?c4 ?k4 ?a5 ?l5 ?c5 ?k5 ?a6 ?l6 ?c6 ?k6 ?a7 ?l7 ?c7 ?k7 ?a8 ?l8 ?c8 ?k8 ?a9 ?l9 ?c9 ?k9 ?a10 ?l10 ?c10 ?k10 ?a11 ?l11 ?c11 ?k11 ?a12 ?l12 ?c12 ?k12 ?a13 ?l13 ?c13 ?k13 ?a14 ?l14 ?c14 ?k14 ?a15 ?l15 ?c15 ?k15 ?a16 ?l16 ?c16 ?k16 ?a17 ?l17 ?c17 ?k17 ?a18 ?l18 ?c18 ?k18 ?a19 ?l19 ?c19 ?k19 ?a20 ?l20 ?c20 ?k20 ?a21 ?l21 ?c21 ?k21 ?a22 ?l22 ?c22 ?k22 ?a23 ?l23 ?c23 ?k23 ?i_HIGHEST ?i_MOST_HANDICAP ?i_MOST_HOLES ?i_MOST_PLAYERS ?z_abs ?z_all ?z_bool ?z_enumerate ?z_int ?z_isinstance ?z_len ?z_list ?z_max ?z_min ?z_range ?z_set ?z_sorted ?z_str ?z_sum ?z_tuple ?z_zip
    (case a0 => k_is)
    (case l0 => k_is)
    (case c0 => k_is)
    (case k0 => k_is)
    (case a1 => k_is)
    (case l1 => k_is)
    (case c1 => k_is)
    (case k1 => k_is)
    (case a2 => k_is)
    (case l2 => k_is)
    (case c2 => k_is)
    (case k2 => k_is)
    (case a3 => k_is)
    (case l3 => k_is)
    (case c3 => k_is)
    (case k3 => k_is)
    (case a4 => k_is)
    (case l4 => k_is)
    (case c4 => k_is)
    (case k4 => k_is)
    (case a5 => k_is)
    (case l5 => k_is)
    (case c5 => k_is)
    (case k5 => k_is)
    (case a6 => k_is)
    (case l6 => k_is)
    (case c6 => k_is)
    (case k6 => k_is)
    (case a7 => k_is)
    (case l7 => k_is)
    (case c7 => k_is)
    (case k7 => k_is)
    (case a8 => k_is)
    (case l8 => k_is)
    (case c8 => k_is)
    (case k8 => k_is)
    (case a9 => k_is)
    (case l9 => k_is)
    (case c9 => k_is)
    (case k9 => k_is)
    (case a10 => k_is)
    (case l10 => k_is)
    (case c10 => k_is)
    (case k10 => k_is)
    (case a11 => k_is)
    (case l11 => k_is)
    (case c11 => k_is)
    (case k11 => k_is)
    (case a12 => k_is)
    (case l12 => k_is)
    (case c12 => k_is)
    (case k12 => k_is)
    (case a13 => k_is)
    (case l13 => k_is)
    (case c13 => k_is)
    (case k13 => k_is)
    (case a14 => k_is)
    (case l14 => k_is)
    (case c14 => k_is)
    (case k14 => k_is)
    (case a15 => k_is)
    (case l15 => k_is)
    (case c15 => k_is)
    (case k15 => k_is)
    (case a16 => k_is)
    (case l16 => k_is)
    (case c16 => k_is)
    (case k16 => k_is)
    (case a17 => k_is)
    (case l17 => k_is)
    (case c17 => k_is)
    (case k17 => k_is)
    (case a18 => k_is)
    (case l18 => k_is)
    (case c18 => k_is)
    (case k18 => k_is)
    (case a19 => k_is)
    (case l19 => k_is)
    (case c19 => k_is)
    (case k19 => k_is)
    (case a20 => k_is)
    (case l20 => k_is)
    (case c20 => k_is)
    (case k20 => k_is)
    (case a21 => k_is)
    (case l21 => k_is)
    (case c21 => k_is)
    (case k21 => k_is)
    (case a22 => k_is)
    (case l22 => k_is)
    (case c22 => k_is)
    (case k22 => k_is)
    (case a23 => k_is)
    (case l23 => k_is)
    (case c23 => k_is)
    (case k23 => k_is)
    (case i_HIGHEST => k_is)
    (case i_MOST_HANDICAP => k_is)
    (case i_MOST_HOLES => k_is)
    (case i_MOST_PLAYERS => k_is)
    (case z_abs => k_is)
    (case z_all => k_is)
    (case z_bool => k_is)
    (case z_enumerate => k_is)
    (case z_int => k_is)
    (case z_isinstance => k_is)
    (case z_len => k_is)
    (case z_list => k_is)
    (case z_max => k_is)
    (case z_min => k_is)
    (case z_range => k_is)
    (case z_set => k_is)
    (case z_sorted => k_is)
    (case z_str => k_is)
    (case z_sum => k_is)
    (case z_tuple => k_is)
    (case z_zip => k_is)
