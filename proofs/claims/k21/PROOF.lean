import PyProof.Rows.All
import Wide.All
import OpenK.AllK
import Wide.FinOn
import HandS.ForMost
import HandS.ForExc
import KE.GoesEnum
import HandS.Zip
import HandS.TupAny
import HandS.TupMul
import HandS.TupLe
import HandS.IsInst
import HandS.Deep
import HandS.SetFor
import HandS.SortInts
import HandS.Conv
import KE.KIndexOf
import HandS.FStr
import HandS.GenList
import HandS.Style
import KE.DataMinMax
import KE.KDictPairs
import HandS.TupSets
import PySem.Challenge.RW_strokeholes_k21_whole_written_matches
set_option Elab.async false
set_option linter.all false
set_option maxRecDepth 100000
set_option maxHeartbeats 4000000
/-! DL1: data by value over the abstract heap: data D, what a value stands for (Rp), slots that hold data (Ok), what an evaluation may change (Ext) -/
namespace DL
open PySem PySem.Spec PyProof.Rows L2

/-- a datum -/
inductive D where
  | non | bl (b : Bool) | int (i : Int) | str (x : Str)
  | tup (xs : List D) | lst (xs : List D)
  | dK (ks : List Key) (ds : List D) | dT (ks : List (List Key)) (ds : List D)
  | ins (c : Nat) (fs : List Str) (ds : List D)
  | fn (n : Nat) | ty (n : String)

/-- addresses of own classes and functions by numbers -/
structure Tab where
  cls : Nat → Addr
  fn : Nat → Addr

/-- a tuple at a: its object has no dict of its own -/
def SqN (K : PySem.W.Frag) (F : Hp) (a : Addr) (vs : List V) : Prop :=
  (∃ o, F a = some (.frz o (.tup vs)) ∧ o.dict = none) ∨ ∃ (o : Obj) (its : Array Value) (n : Nat), K.lookup a = some o ∧ o.dict = none ∧ o.cls = .type "tuple" ∧ o.data = .seq its n ∧ its.size ≤ sizeLine ∧ Vals vs its.toList
theorem SqN.t {K : PySem.W.Frag} {F : Hp} {a : Addr} {vs : List V} (h : SqN K F a vs) : SqT K F a vs := by
  rcases h with ⟨o, h, _⟩ | ⟨o, its, n, h1, _, h2, h3, h4, h5⟩
  · exact .inl (.inr ⟨o, h⟩)
  · exact .inr ⟨o, its, n, h1, h2, h3, h4, h5⟩
theorem SqN.mono {K : PySem.W.Frag} {F F' : Hp} (s : Same F F') {a : Addr} {vs : List V} (h : SqN K F a vs) : SqN K F' a vs := by
  rcases h with ⟨o, h, hd⟩ | h
  · exact .inl ⟨o, s _ _ h, hd⟩
  · exact .inr h

mutual
def Rp (K : PySem.W.Frag) (T : Tab) (F : Hp) : D → V → Prop
  | .non, v => v = .non
  | .bl b, v => v = .bl b
  | .int i, v => v = .int i
  | .str x, v => v = .str x
  | .tup ds, v => ∃ a vs, v = .ref a ∧ SqN K F a vs ∧ Rps K T F ds vs
  | .lst ds, v => ∃ a vs, v = .ref a ∧ SqL K F a vs ∧ Rps K T F ds vs
  | .dK ks ds, v => ∃ a vs, v = .ref a ∧ Rd F a (.dK (ks.zip vs)) ∧ ks.length = ds.length ∧ Rps K T F ds vs
  | .dT ks ds, v => ∃ a vs, v = .ref a ∧ Rd F a (.dT (ks.zip vs)) ∧ ks.length = ds.length ∧ Rps K T F ds vs
  | .ins c fs ds, v => ∃ a dx vs, v = .ref a ∧ F a = some (.ins (T.cls c) dx (fs.zip vs)) ∧ fs.length = ds.length ∧ Rps K T F ds vs
  | .fn n, v => v = .ref (T.fn n)
  | .ty n, v => v = .ty n
def Rps (K : PySem.W.Frag) (T : Tab) (F : Hp) : List D → List V → Prop
  | [], vs => vs = []
  | d :: ds, vs => ∃ v r, vs = v :: r ∧ Rp K T F d v ∧ Rps K T F ds r
end

theorem rd_mono {F F' : Hp} (s : Same F F') {a : Addr} {u : HO} (h : Rd F a u) : Rd F' a u := by
  rcases h with h | ⟨o, h⟩
  · exact .inl (s _ _ h)
  · exact .inr ⟨o, s _ _ h⟩
theorem sqT_mono {K : PySem.W.Frag} {F F' : Hp} (s : Same F F') {a : Addr} {xs : List V} (h : SqT K F a xs) : SqT K F' a xs := by
  rcases h with h | h
  · exact .inl (rd_mono s h)
  · exact .inr h
theorem sqL_mono {K : PySem.W.Frag} {F F' : Hp} (s : Same F F') {a : Addr} {xs : List V} (h : SqL K F a xs) : SqL K F' a xs := s.seq h

mutual
theorem Rp.mono {K : PySem.W.Frag} {T : Tab} {F F' : Hp} (s : Same F F') : ∀ (d : D) (v : V), Rp K T F d v → Rp K T F' d v
  | .non, v, h => by unfold Rp at h ⊢; exact h
  | .bl b, v, h => by unfold Rp at h ⊢; exact h
  | .int i, v, h => by unfold Rp at h ⊢; exact h
  | .str x, v, h => by unfold Rp at h ⊢; exact h
  | .tup ds, v, h => by
    unfold Rp at h ⊢
    obtain ⟨a, vs, e, q, r⟩ := h
    exact ⟨a, vs, e, q.mono s, Rps.mono s ds vs r⟩
  | .lst ds, v, h => by
    unfold Rp at h ⊢
    obtain ⟨a, vs, e, q, r⟩ := h
    exact ⟨a, vs, e, sqL_mono s q, Rps.mono s ds vs r⟩
  | .dK ks ds, v, h => by
    unfold Rp at h ⊢
    obtain ⟨a, vs, e, q, l, r⟩ := h
    exact ⟨a, vs, e, rd_mono s q, l, Rps.mono s ds vs r⟩
  | .dT ks ds, v, h => by
    unfold Rp at h ⊢
    obtain ⟨a, vs, e, q, l, r⟩ := h
    exact ⟨a, vs, e, rd_mono s q, l, Rps.mono s ds vs r⟩
  | .ins c fs ds, v, h => by
    unfold Rp at h ⊢
    obtain ⟨a, dx, vs, e, q, l, r⟩ := h
    exact ⟨a, dx, vs, e, s _ _ q, l, Rps.mono s ds vs r⟩
  | .fn n, v, h => by unfold Rp at h ⊢; exact h
  | .ty n, v, h => by unfold Rp at h ⊢; exact h
theorem Rps.mono {K : PySem.W.Frag} {T : Tab} {F F' : Hp} (s : Same F F') : ∀ (ds : List D) (vs : List V), Rps K T F ds vs → Rps K T F' ds vs
  | [], vs, h => by unfold Rps at h ⊢; exact h
  | d :: ds, vs, h => by
    unfold Rps at h ⊢
    obtain ⟨v, r, e, h1, h2⟩ := h
    exact ⟨v, r, e, Rp.mono s d v h1, Rps.mono s ds r h2⟩
end

section
variable {K : PySem.W.Frag} {T : Tab} {F : Hp}
theorem rp_non {v : V} : Rp K T F .non v ↔ v = .non := by unfold Rp; exact Iff.rfl
theorem rp_bl {b : Bool} {v : V} : Rp K T F (.bl b) v ↔ v = .bl b := by unfold Rp; exact Iff.rfl
theorem rp_int {i : Int} {v : V} : Rp K T F (.int i) v ↔ v = .int i := by unfold Rp; exact Iff.rfl
theorem rp_str {x : Str} {v : V} : Rp K T F (.str x) v ↔ v = .str x := by unfold Rp; exact Iff.rfl
theorem rp_fn {n : Nat} {v : V} : Rp K T F (.fn n) v ↔ v = .ref (T.fn n) := by unfold Rp; exact Iff.rfl
theorem rp_ty {n : String} {v : V} : Rp K T F (.ty n) v ↔ v = .ty n := by unfold Rp; exact Iff.rfl
theorem rp_tup {ds : List D} {v : V} : Rp K T F (.tup ds) v ↔ ∃ a vs, v = .ref a ∧ SqN K F a vs ∧ Rps K T F ds vs := by unfold Rp; exact Iff.rfl
theorem rp_tupT {ds : List D} {v : V} (h : Rp K T F (.tup ds) v) : ∃ a vs, v = .ref a ∧ SqT K F a vs ∧ Rps K T F ds vs := let ⟨a, vs, e, q, r⟩ := rp_tup.mp h; ⟨a, vs, e, q.t, r⟩
theorem rp_lst {ds : List D} {v : V} : Rp K T F (.lst ds) v ↔ ∃ a vs, v = .ref a ∧ SqL K F a vs ∧ Rps K T F ds vs := by unfold Rp; exact Iff.rfl
theorem rp_dK {ks : List Key} {ds : List D} {v : V} : Rp K T F (.dK ks ds) v ↔ ∃ a vs, v = .ref a ∧ Rd F a (.dK (ks.zip vs)) ∧ ks.length = ds.length ∧ Rps K T F ds vs := by unfold Rp; exact Iff.rfl
theorem rp_dT {ks : List (List Key)} {ds : List D} {v : V} : Rp K T F (.dT ks ds) v ↔ ∃ a vs, v = .ref a ∧ Rd F a (.dT (ks.zip vs)) ∧ ks.length = ds.length ∧ Rps K T F ds vs := by unfold Rp; exact Iff.rfl
theorem rp_ins {c : Nat} {fs : List Str} {ds : List D} {v : V} : Rp K T F (.ins c fs ds) v ↔ ∃ a dx vs, v = .ref a ∧ F a = some (.ins (T.cls c) dx (fs.zip vs)) ∧ fs.length = ds.length ∧ Rps K T F ds vs := by unfold Rp; exact Iff.rfl
theorem rps_nil {vs : List V} : Rps K T F [] vs ↔ vs = [] := by unfold Rps; exact Iff.rfl
theorem rps_cons {d : D} {ds : List D} {vs : List V} : Rps K T F (d :: ds) vs ↔ ∃ v r, vs = v :: r ∧ Rp K T F d v ∧ Rps K T F ds r := by
  constructor
  · intro h; unfold Rps at h; exact h
  · intro h; unfold Rps; exact h
theorem Rps.length : ∀ {ds : List D} {vs : List V}, Rps K T F ds vs → vs.length = ds.length
  | [], vs, h => by rw [rps_nil.mp h]; rfl
  | d :: ds, vs, h => by
    obtain ⟨v, r, e, _, h2⟩ := rps_cons.mp h
    rw [e, List.length_cons, Rps.length h2, List.length_cons]
theorem Rps.get : ∀ {ds : List D} {vs : List V} {i : Nat} {d : D}, Rps K T F ds vs → ds[i]? = some d → ∃ v, vs[i]? = some v ∧ Rp K T F d v
  | [], vs, i, d, h, e => by simp at e
  | d' :: ds, vs, 0, d, h, e => by
    obtain ⟨v, r, ev, h1, _⟩ := rps_cons.mp h
    simp at e; subst e; subst ev
    exact ⟨v, rfl, h1⟩
  | d' :: ds, vs, i + 1, d, h, e => by
    obtain ⟨v, r, ev, _, h2⟩ := rps_cons.mp h
    subst ev
    obtain ⟨v', e1, h3⟩ := Rps.get (i := i) (d := d) h2 (by simpa using e)
    exact ⟨v', by simpa using e1, h3⟩
theorem Rps.get' : ∀ {ds : List D} {vs : List V} {i : Nat} {v : V}, Rps K T F ds vs → vs[i]? = some v → ∃ d, ds[i]? = some d ∧ Rp K T F d v
  | [], vs, i, v, h, e => by rw [rps_nil.mp h] at e; simp at e
  | d' :: ds, vs, 0, v, h, e => by
    obtain ⟨v', r, ev, h1, _⟩ := rps_cons.mp h
    subst ev
    simp at e; subst e
    exact ⟨d', rfl, h1⟩
  | d' :: ds, vs, i + 1, v, h, e => by
    obtain ⟨v', r, ev, _, h2⟩ := rps_cons.mp h
    subst ev
    obtain ⟨d, e1, h3⟩ := Rps.get' (i := i) (v := v) h2 (by simpa using e)
    exact ⟨d, by simpa using e1, h3⟩
theorem Rps.append : ∀ {ds es : List D} {vs us : List V}, Rps K T F ds vs → Rps K T F es us → Rps K T F (ds ++ es) (vs ++ us)
  | [], es, vs, us, h, h' => by rw [rps_nil.mp h]; exact h'
  | d :: ds, es, vs, us, h, h' => by
    obtain ⟨v, r, e, h1, h2⟩ := rps_cons.mp h
    subst e
    exact rps_cons.mpr ⟨v, r ++ us, rfl, h1, Rps.append h2 h'⟩
theorem Rps.take : ∀ {ds : List D} {vs : List V} (n : Nat), Rps K T F ds vs → Rps K T F (ds.take n) (vs.take n)
  | ds, vs, 0, h => by simp; exact rps_nil.mpr rfl
  | [], vs, n + 1, h => by rw [rps_nil.mp h]; simp; exact rps_nil.mpr rfl
  | d :: ds, vs, n + 1, h => by
    obtain ⟨v, r, e, h1, h2⟩ := rps_cons.mp h
    subst e
    exact rps_cons.mpr ⟨v, r.take n, rfl, h1, Rps.take n h2⟩
theorem Rps.drop : ∀ {ds : List D} {vs : List V} (n : Nat), Rps K T F ds vs → Rps K T F (ds.drop n) (vs.drop n)
  | ds, vs, 0, h => h
  | [], vs, n + 1, h => by rw [rps_nil.mp h]; simp; exact rps_nil.mpr rfl
  | d :: ds, vs, n + 1, h => by
    obtain ⟨v, r, e, h1, h2⟩ := rps_cons.mp h
    subst e
    exact Rps.drop n h2
theorem Rps.set : ∀ {ds : List D} {vs : List V} (i : Nat) {d : D} {v : V}, Rps K T F ds vs → Rp K T F d v → Rps K T F (ds.set i d) (vs.set i v)
  | [], vs, i, d, v, h, r => by rw [rps_nil.mp h]; exact rps_nil.mpr rfl
  | d' :: ds, vs, 0, d, v, h, q => by
    obtain ⟨v', r, e, h1, h2⟩ := rps_cons.mp h
    subst e
    exact rps_cons.mpr ⟨v, r, rfl, q, h2⟩
  | d' :: ds, vs, i + 1, d, v, h, q => by
    obtain ⟨v', r, e, h1, h2⟩ := rps_cons.mp h
    subst e
    exact rps_cons.mpr ⟨v', r.set i v, rfl, h1, Rps.set i h2 q⟩
theorem Rps.eraseIdx : ∀ {ds : List D} {vs : List V} (i : Nat), Rps K T F ds vs → Rps K T F (ds.eraseIdx i) (vs.eraseIdx i)
  | [], vs, i, h => by rw [rps_nil.mp h]; exact rps_nil.mpr rfl
  | d' :: ds, vs, 0, h => by
    obtain ⟨v', r, e, h1, h2⟩ := rps_cons.mp h
    subst e
    exact h2
  | d' :: ds, vs, i + 1, h => by
    obtain ⟨v', r, e, h1, h2⟩ := rps_cons.mp h
    subst e
    exact rps_cons.mpr ⟨v', r.eraseIdx i, rfl, h1, Rps.eraseIdx i h2⟩
theorem Rps.one {d : D} {v : V} (h : Rp K T F d v) : Rps K T F [d] [v] := rps_cons.mpr ⟨v, [], rfl, h, rps_nil.mpr rfl⟩
theorem Rps.ints : ∀ (ns : List Int) (vs : List V), Rps K T F (ns.map D.int) vs ↔ vs = ns.map V.int
  | [], vs => by simp only [List.map_nil]; exact rps_nil
  | n :: ns, vs => by
    simp only [List.map_cons]
    rw [rps_cons]
    constructor
    · rintro ⟨v, r, e, h1, h2⟩
      rw [e, rp_int.mp h1, (Rps.ints ns r).mp h2]
    · rintro e
      exact ⟨.int n, ns.map V.int, e, rp_int.mpr rfl, (Rps.ints ns _).mpr rfl⟩
end

/-- an object that stands for a mutable datum -/
def RpO (K : PySem.W.Frag) (T : Tab) (F : Hp) : D → HO → Prop
  | .lst ds, .lst vs => Rps K T F ds vs
  | .dK ks ds, .dK kvs => ∃ vs, kvs = ks.zip vs ∧ ks.length = ds.length ∧ Rps K T F ds vs
  | .dT ks ds, .dT kvs => ∃ vs, kvs = ks.zip vs ∧ ks.length = ds.length ∧ Rps K T F ds vs
  | .ins c fs ds, .ins C _ kvs => C = T.cls c ∧ ∃ vs, kvs = fs.zip vs ∧ fs.length = ds.length ∧ Rps K T F ds vs
  | _, _ => False
theorem RpO.mono {K : PySem.W.Frag} {T : Tab} {F F' : Hp} (s : Same F F') {d : D} {o : HO} (h : RpO K T F d o) : RpO K T F' d o := by
  unfold RpO at h ⊢
  split at h
  · exact Rps.mono s _ _ h
  · obtain ⟨vs, e, l, h⟩ := h; exact ⟨vs, e, l, Rps.mono s _ _ h⟩
  · obtain ⟨vs, e, l, h⟩ := h; exact ⟨vs, e, l, Rps.mono s _ _ h⟩
  · obtain ⟨e0, vs, e, l, h⟩ := h; exact ⟨e0, vs, e, l, Rps.mono s _ _ h⟩
  · exact h.elim
/-- the object read as a value -/
theorem RpO.rp {K : PySem.W.Frag} {T : Tab} {F H : Hp} (s : Same F H) {d : D} {o : HO} {a : Addr} (h : RpO K T F d o) (e : H a = some o) : Rp K T H d (.ref a) := by
  unfold RpO at h
  split at h
  · exact rp_lst.mpr ⟨a, _, rfl, .inl (.inl e), Rps.mono s _ _ h⟩
  · obtain ⟨vs, e', l, h⟩ := h
    subst e'
    exact rp_dK.mpr ⟨a, vs, rfl, .inl e, l, Rps.mono s _ _ h⟩
  · obtain ⟨vs, e', l, h⟩ := h
    subst e'
    exact rp_dT.mpr ⟨a, vs, rfl, .inl e, l, Rps.mono s _ _ h⟩
  · obtain ⟨ec, vs, e', l, h⟩ := h
    subst e' ec
    exact rp_ins.mpr ⟨a, _, vs, rfl, e, l, Rps.mono s _ _ h⟩
  · exact h.elim
theorem rpO_lst {K : PySem.W.Frag} {T : Tab} {F : Hp} {ds : List D} {o : HO} : RpO K T F (.lst ds) o ↔ ∃ vs, o = .lst vs ∧ Rps K T F ds vs := by
  constructor
  · intro h
    cases o with
    | lst vs => exact ⟨vs, rfl, h⟩
    | _ => exact (show False from h).elim
  · rintro ⟨vs, rfl, h⟩
    exact h
theorem rpO_dK {K : PySem.W.Frag} {T : Tab} {F : Hp} {ks : List Key} {ds : List D} {o : HO} : RpO K T F (.dK ks ds) o ↔ ∃ vs, o = .dK (ks.zip vs) ∧ ks.length = ds.length ∧ Rps K T F ds vs := by
  constructor
  · intro h
    cases o with
    | dK kvs => obtain ⟨vs, e, h⟩ := h; exact ⟨vs, by rw [e], h⟩
    | _ => exact (show False from h).elim
  · rintro ⟨vs, rfl, h⟩
    exact ⟨vs, rfl, h⟩
theorem rpO_dT {K : PySem.W.Frag} {T : Tab} {F : Hp} {ks : List (List Key)} {ds : List D} {o : HO} : RpO K T F (.dT ks ds) o ↔ ∃ vs, o = .dT (ks.zip vs) ∧ ks.length = ds.length ∧ Rps K T F ds vs := by
  constructor
  · intro h
    cases o with
    | dT kvs => obtain ⟨vs, e, h⟩ := h; exact ⟨vs, by rw [e], h⟩
    | _ => exact (show False from h).elim
  · rintro ⟨vs, rfl, h⟩
    exact ⟨vs, rfl, h⟩

/-- what a slot holds: nothing that is known, a datum that never changes, an object of its own -/
inductive Sl where
  | no | fz (d : D) | own (d : D)
abbrev En := List Sl

def OwnAt (σ : L2.St) (ε : En) (a : Addr) : Prop := ∃ (i : Nat) (d : D), ε[i]? = some (.own d) ∧ σ[i]? = some (some (.ref a))

structure Ok (K : PySem.W.Frag) (T : Tab) (F H : Hp) (σ : L2.St) (ε : En) : Prop where
  sub : Same F H
  len : σ.length = ε.length
  fz : ∀ (i : Nat) (d : D), ε[i]? = some (.fz d) → ∃ v, σ[i]? = some (some v) ∧ Rp K T F d v
  own : ∀ (i : Nat) (d : D), ε[i]? = some (.own d) → ∃ a o, σ[i]? = some (some (.ref a)) ∧ F a = none ∧ H a = some o ∧ RpO K T F d o
  sep : ∀ (i j : Nat) (d d' : D) (a : Addr), ε[i]? = some (.own d) → ε[j]? = some (.own d') → σ[i]? = some (some (.ref a)) → σ[j]? = some (some (.ref a)) → i = j

/-- what an evaluation may change -/
structure Ext (F H : Hp) (σ : L2.St) (ε : En) (F' H' : Hp) (σ' : L2.St) (ε' : En) : Prop where
  fs : Same F F'
  hk : ∀ a o, H a = some o → ¬ OwnAt σ ε a → H' a = some o
  ht : ∀ a, H' a = none → H a = none
  fn : ∀ a, F' a ≠ none → F a ≠ none ∨ H a = none ∨ OwnAt σ ε a
  on : ∀ a, OwnAt σ' ε' a → OwnAt σ ε a ∨ H a = none

theorem Ext.refl {F H : Hp} {σ : L2.St} {ε : En} : Ext F H σ ε F H σ ε :=
  ⟨Same.refl _, fun _ _ h _ => h, fun _ h => h, fun _ h => .inl h, fun _ h => .inl h⟩
theorem Ext.trans {F H F1 H1 F2 H2 : Hp} {σ σ1 σ2 : L2.St} {ε ε1 ε2 : En} (a : Ext F H σ ε F1 H1 σ1 ε1) (b : Ext F1 H1 σ1 ε1 F2 H2 σ2 ε2) : Ext F H σ ε F2 H2 σ2 ε2 where
  fs := a.fs.trans b.fs
  hk := fun c o h n => b.hk c o (a.hk c o h n) fun q => by
    rcases a.on c q with q | q
    · exact n q
    · rw [h] at q; cases q
  ht := fun c h => a.ht c (b.ht c h)
  fn := fun c h => by
    rcases b.fn c h with q | q | q
    · exact a.fn c q
    · exact .inr (.inl (a.ht c q))
    · rcases a.on c q with q | q
      · exact .inr (.inr q)
      · exact .inr (.inl q)
  on := fun c h => by
    rcases b.on c h with q | q
    · exact a.on c q
    · exact .inr (a.ht c q)

/-- the result of an expression: a datum that never changes; a new object that nobody else knows; the object of a slot -/
inductive R where
  | fz (d : D) | new (d : D) | at (i : Nat)

def RpR (K : PySem.W.Frag) (T : Tab) (F H : Hp) (σ : L2.St) (ε : En) : R → V → Prop
  | .fz d, v => Rp K T F d v
  | .new d, v => ∃ a o, v = .ref a ∧ F a = none ∧ H a = some o ∧ RpO K T F d o ∧ ¬ OwnAt σ ε a
  | .at i, v => σ[i]? = some (some v)
/-- the new objects among results -/
def newA : R → V → List Addr
  | .new _, .ref a => [a]
  | _, _ => []
def newAs : List R → List V → List Addr
  | r :: rs, v :: vs => newA r v ++ newAs rs vs
  | _, _ => []
/-- a new object stays as it is -/
theorem RpR.ext {K : PySem.W.Frag} {T : Tab} {F H F' H' : Hp} {σ : L2.St} {ε ε' : En} (x : Ext F H σ ε F' H' σ ε') {r : R} {v : V} (h : RpR K T F H σ ε r v) : RpR K T F' H' σ ε' r v := by
  cases r with
  | fz d => exact Rp.mono x.fs d v h
  | «at» i => exact h
  | new d =>
    obtain ⟨a, o, e, f, g, q, n⟩ := h
    refine ⟨a, o, e, ?_, x.hk a o g n, q.mono x.fs, fun z => ?_⟩
    · cases hf : F' a with
      | none => rfl
      | some u =>
        rcases x.fn a (by rw [hf]; simp) with z | z | z
        · exact absurd f z
        · rw [g] at z; cases z
        · exact absurd z n
    · rcases x.on a z with z | z
      · exact n z
      · rw [g] at z; cases z

/-- what a result stands for, now -/
def res (ε : En) : R → Option D
  | .fz d => some d
  | .new d => some d
  | .at i => match ε[i]? with
    | some (.own d) => some d
    | _ => none
theorem res_at {ε : En} {i : Nat} {d : D} (e : res ε (.at i) = some d) : ε[i]? = some (.own d) := by
  have e' : (match ε[i]? with | some (.own d) => some d | _ => none) = some d := e
  cases h : ε[i]? with
  | none => rw [h] at e'; cases e'
  | some u =>
    rw [h] at e'
    cases u with
    | own d1 => cases e'; rfl
    | _ => cases e'
theorem res_rp {K : PySem.W.Frag} {T : Tab} {F H : Hp} {σ : L2.St} {ε : En} {r : R} {v : V} {d : D} (k : Ok K T F H σ ε) (h : RpR K T F H σ ε r v) (e : res ε r = some d) : Rp K T H d v := by
  cases r with
  | fz d' => cases e; exact Rp.mono k.sub _ _ h
  | new d' =>
    cases e
    obtain ⟨a, o, rfl, _, g, q, _⟩ := h
    exact q.rp k.sub g
  | «at» i =>
    have hd := res_at e
    obtain ⟨a, o, e1, _, g, q⟩ := k.own i _ hd
    have e2 : σ[i]? = some (some v) := h
    rw [e1] at e2
    cases e2
    exact q.rp k.sub g
/-- .. as something that never changes from now on -/
def frz (ε : En) : R → Option (D × En)
  | .fz d => some (d, ε)
  | .new d => some (d, ε)
  | .at i => match ε[i]? with
    | some (.own d) => some (d, ε.set i (.fz d))
    | _ => none
theorem frz_at {ε ε' : En} {i : Nat} {d : D} (e : frz ε (.at i) = some (d, ε')) : ε[i]? = some (.own d) ∧ ε' = ε.set i (.fz d) := by
  have e' : (match ε[i]? with | some (.own d) => some (d, ε.set i (.fz d)) | _ => none) = some (d, ε') := e
  cases h : ε[i]? with
  | none => rw [h] at e'; cases e'
  | some u =>
    rw [h] at e'
    cases u with
    | own d1 => cases e'; exact ⟨rfl, rfl⟩
    | _ => cases e'
theorem same_upd {F : Hp} {a : Addr} {o : HO} (h : F a = none) : Same F (upd F a o) := fun b u e => by
  rw [upd_ne (ne_of_none e h)]; exact e
theorem upd_sub {F H : Hp} {a : Addr} {o : HO} (s : Same F H) (h : H a = some o) : Same (upd F a o) H := fun b u e => by
  by_cases hb : b = a
  · subst hb; rw [upd_same] at e; cases e; exact h
  · rw [upd_ne hb] at e; exact s b u e
theorem ok_freeze {K : PySem.W.Frag} {T : Tab} {F H : Hp} {σ : L2.St} {ε : En} (k : Ok K T F H σ ε) {a : Addr} {o : HO} (hf : F a = none) (hh : H a = some o) (hn : ¬ OwnAt σ ε a) :
    Ok K T (upd F a o) H σ ε where
  sub := upd_sub k.sub hh
  len := k.len
  fz := fun i d e => by
    obtain ⟨v, e1, r⟩ := k.fz i d e
    exact ⟨v, e1, Rp.mono (same_upd hf) _ _ r⟩
  own := fun i d e => by
    obtain ⟨b, u, e1, f, g, r⟩ := k.own i d e
    have hba : b ≠ a := fun z => hn ⟨i, d, e, z ▸ e1⟩
    exact ⟨b, u, e1, by rw [upd_ne hba]; exact f, g, r.mono (same_upd hf)⟩
  sep := k.sep
theorem own_set {σ : L2.St} {ε : En} {i : Nat} {d : D} {a : Addr} (h : OwnAt σ (ε.set i (.fz d)) a) : OwnAt σ ε a := by
  obtain ⟨j, d', e, e'⟩ := h
  by_cases hj : i = j
  · subst hj
    by_cases hl : i < ε.length
    · rw [List.getElem?_set_self hl] at e; cases e
    · rw [List.getElem?_eq_none (by rw [List.length_set]; omega)] at e; cases e
  · rw [List.getElem?_set_ne hj] at e
    exact ⟨j, d', e, e'⟩

theorem frz_ok {K : PySem.W.Frag} {T : Tab} {F0 H0 F H : Hp} {σ0 σ : L2.St} {ε0 ε ε' : En} {r : R} {v : V} {d : D} (x : Ext F0 H0 σ0 ε0 F H σ ε) (k : Ok K T F H σ ε) (h : RpR K T F H σ ε r v) (hn : ∀ a ∈ newA r v, H0 a = none) (e : frz ε r = some (d, ε')) :
    ∃ F', Ok K T F' H σ ε' ∧ Ext F0 H0 σ0 ε0 F' H σ ε' ∧ Rp K T F' d v ∧ Same F F' ∧ (∀ b, F' b ≠ none → F b ≠ none ∨ b ∈ newA r v ∨ OwnAt σ ε b) ∧ (∀ b, OwnAt σ ε' b → OwnAt σ ε b) := by
  cases r with
  | fz d' =>
    cases e
    exact ⟨F, k, x, h, Same.refl _, fun b hb => .inl hb, fun b hb => hb⟩
  | new d' =>
    cases e
    obtain ⟨a, o, rfl, f, g, q, n⟩ := h
    have h0 : H0 a = none := hn a (by simp [newA])
    refine ⟨upd F a o, ok_freeze k f g n, ⟨x.fs.trans (same_upd f), x.hk, x.ht, fun b hb => ?_, x.on⟩, ?_, same_upd f, fun b hb => ?_, fun b hb => hb⟩
    · by_cases hba : b = a
      · subst hba; exact .inr (.inl h0)
      · rw [upd_ne hba] at hb; exact x.fn b hb
    · exact RpO.rp (F := F) (same_upd f) q upd_same
    · by_cases hba : b = a
      · subst hba; exact .inr (.inl (by simp [newA]))
      · rw [upd_ne hba] at hb; exact .inl hb
  | «at» i =>
    obtain ⟨hd, rfl⟩ := frz_at e
    · 
      obtain ⟨a, o, e1, f, g, q⟩ := k.own i _ hd
      have e2 : σ[i]? = some (some v) := h
      rw [e1] at e2
      cases e2
      have hil : i < ε.length := (List.getElem?_eq_some_iff.mp hd).1
      refine ⟨upd F a o, ⟨upd_sub k.sub g, by rw [List.length_set]; exact k.len, fun j d1 ej => ?_, fun j d1 ej => ?_, fun j1 j2 d1 d2 b ej1 ej2 s1 s2 => ?_⟩, ⟨x.fs.trans (same_upd f), x.hk, x.ht, fun b hb => ?_, fun b hb => x.on b (own_set hb)⟩, ?_, same_upd f, fun b hb => ?_, fun b hb => own_set hb⟩
      · by_cases hj : i = j
        · subst hj
          rw [List.getElem?_set_self hil] at ej
          cases ej
          exact ⟨_, e1, RpO.rp (F := F) (same_upd f) q upd_same⟩
        · rw [List.getElem?_set_ne hj] at ej
          obtain ⟨w, s1, r1⟩ := k.fz j d1 ej
          exact ⟨w, s1, Rp.mono (same_upd f) _ _ r1⟩
      · by_cases hj : i = j
        · subst hj
          rw [List.getElem?_set_self hil] at ej
          cases ej
        · rw [List.getElem?_set_ne hj] at ej
          obtain ⟨b, u, s1, f1, g1, r1⟩ := k.own j d1 ej
          have hba : b ≠ a := fun z => hj (k.sep i j d d1 a hd ej e1 (z ▸ s1))
          exact ⟨b, u, s1, by rw [upd_ne hba]; exact f1, g1, r1.mono (same_upd f)⟩
      · have get : ∀ {j : Nat} {d1 : D}, (ε.set i (.fz d))[j]? = some (.own d1) → ε[j]? = some (.own d1) := fun {j d1} ej => by
          by_cases hj : i = j
          · subst hj
            rw [List.getElem?_set_self hil] at ej
            cases ej
          · rw [List.getElem?_set_ne hj] at ej
            exact ej
        exact k.sep j1 j2 d1 d2 b (get ej1) (get ej2) s1 s2
      · by_cases hba : b = a
        · subst hba
          rcases x.on b ⟨i, d, hd, e1⟩ with z | z
          · exact .inr (.inr z)
          · exact .inr (.inl z)
        · rw [upd_ne hba] at hb; exact x.fn b hb
      · exact RpO.rp (F := F) (same_upd f) q upd_same
      · by_cases hba : b = a
        · subst hba; exact .inr (.inr ⟨i, d, hd, e1⟩)
        · rw [upd_ne hba] at hb; exact .inl hb

/-- results in a row -/
def RpRs (K : PySem.W.Frag) (T : Tab) (F H : Hp) (σ : L2.St) (ε : En) : List R → List V → Prop
  | [], vs => vs = []
  | r :: rs, vs => ∃ v w, vs = v :: w ∧ RpR K T F H σ ε r v ∧ RpRs K T F H σ ε rs w
theorem RpRs.ext {K : PySem.W.Frag} {T : Tab} {F H F' H' : Hp} {σ : L2.St} {ε ε' : En} (x : Ext F H σ ε F' H' σ ε') : ∀ {rs : List R} {vs : List V}, RpRs K T F H σ ε rs vs → RpRs K T F' H' σ ε' rs vs
  | [], _, h => h
  | r :: rs, _, ⟨v, w, e, h1, h2⟩ => ⟨v, w, e, h1.ext x, RpRs.ext x h2⟩
theorem RpRs.length {K : PySem.W.Frag} {T : Tab} {F H : Hp} {σ : L2.St} {ε : En} : ∀ {rs : List R} {vs : List V}, RpRs K T F H σ ε rs vs → vs.length = rs.length
  | [], _, h => by rw [show _ = [] from h]; rfl
  | r :: rs, _, ⟨v, w, e, _, h2⟩ => by rw [e, List.length_cons, RpRs.length h2, List.length_cons]

/-- all of them as things that never change from now on -/
def frzs (ε : En) : List R → Option (List D × En)
  | [] => some ([], ε)
  | r :: rs => match frz ε r with
    | some (d, ε1) => match frzs ε1 rs with
      | some (ds, ε2) => some (d :: ds, ε2)
      | none => none
    | none => none
/-- a result that is left over when another one has been frozen -/
theorem RpR.left {K : PySem.W.Frag} {T : Tab} {F F' H : Hp} {σ : L2.St} {ε ε' : En} {r r' : R} {v v' : V} (s : Same F F') (hf : ∀ b, F' b ≠ none → F b ≠ none ∨ b ∈ newA r v ∨ OwnAt σ ε b) (ho : ∀ b, OwnAt σ ε' b → OwnAt σ ε b)
    (h : RpR K T F H σ ε r' v') (hd : ∀ a ∈ newA r' v', a ∉ newA r v) : RpR K T F' H σ ε' r' v' := by
  cases r' with
  | fz d => exact Rp.mono s _ _ h
  | «at» i => exact h
  | new d =>
    obtain ⟨a, o, rfl, f, g, q, n⟩ := h
    refine ⟨a, o, rfl, ?_, g, q.mono s, fun z => n (ho _ z)⟩
    cases hf' : F' a with
    | none => rfl
    | some u =>
      rcases hf a (by rw [hf']; simp) with z | z | z
      · exact absurd f z
      · exact absurd z (hd a (by simp [newA]))
      · exact absurd z n
theorem RpRs.left {K : PySem.W.Frag} {T : Tab} {F F' H : Hp} {σ : L2.St} {ε ε' : En} {r : R} {v : V} (s : Same F F') (hf : ∀ b, F' b ≠ none → F b ≠ none ∨ b ∈ newA r v ∨ OwnAt σ ε b) (ho : ∀ b, OwnAt σ ε' b → OwnAt σ ε b) :
    ∀ {rs : List R} {vs : List V}, RpRs K T F H σ ε rs vs → (∀ a ∈ newAs rs vs, a ∉ newA r v) → RpRs K T F' H σ ε' rs vs
  | [], _, h, _ => h
  | r' :: rs, _, ⟨v', w, e, h1, h2⟩, hd => by
    subst e
    exact ⟨v', w, rfl, h1.left s hf ho fun a ha => hd a (by simp [newAs, ha]), RpRs.left s hf ho h2 fun a ha => hd a (by simp [newAs, ha])⟩
theorem frzs_ok {K : PySem.W.Frag} {T : Tab} {F0 H0 : Hp} {σ0 σ : L2.St} {ε0 : En} : ∀ {rs : List R} {vs : List V} {F H : Hp} {ε ε' : En} {ds : List D}, Ext F0 H0 σ0 ε0 F H σ ε → Ok K T F H σ ε → RpRs K T F H σ ε rs vs →
    (∀ a ∈ newAs rs vs, H0 a = none) → (newAs rs vs).Nodup → frzs ε rs = some (ds, ε') → ∃ F', Ok K T F' H σ ε' ∧ Ext F0 H0 σ0 ε0 F' H σ ε' ∧ Rps K T F' ds vs ∧ Same F F'
  | [], vs, F, H, ε, ε', ds, x, k, h, _, _, e => by
    cases e
    exact ⟨F, k, x, rps_nil.mpr h, Same.refl _⟩
  | r :: rs, vs, F, H, ε, ε', ds, x, k, h, hn, nd, e => by
    obtain ⟨v, w, rfl, h1, h2⟩ := h
    unfold frzs at e
    split at e
    · rename_i d ε1 e1
      split at e
      · rename_i ds' ε2 e2
        cases e
        have nd' : (newA r v ++ newAs rs w).Nodup := nd
        obtain ⟨F1, k1, x1, r1, s1, f1, o1⟩ := frz_ok x k h1 (fun a ha => hn a (List.mem_append_left _ ha)) e1
        have h2' := h2.left s1 f1 o1 fun a ha hb => (List.nodup_append.mp nd').2.2 a hb a ha rfl
        obtain ⟨F2, k2, x2, r2, s2⟩ := frzs_ok x1 k1 h2' (fun a ha => hn a (List.mem_append_right _ ha)) (List.nodup_append.mp nd').2.1 e2
        exact ⟨F2, k2, x2, rps_cons.mpr ⟨v, w, rfl, Rp.mono s2 _ _ r1, r2⟩, s1.trans s2⟩
      · cases e
    · cases e
end DL

/-! DL2: what a piece of code does to the slots' data, as a function of them; the judgements -/
namespace DL
open PySem PySem.Spec PyProof.Rows L2

/-- an outcome: nothing is said; a value and the slots; an exception of an own class and the slots -/
inductive O (α : Type) where
  | bad | ok (a : α) (ε : En) | exn (c : Nat) (ε : En)
def O.bind {α β : Type} (o : O α) (f : α → En → O β) : O β :=
  match o with
  | .bad => .bad
  | .ok a ε => f a ε
  | .exn c ε => .exn c ε
@[simp] theorem O.bind_bad {α β : Type} (f : α → En → O β) : O.bind .bad f = .bad := rfl
@[simp] theorem O.bind_ok {α β : Type} (a : α) (ε : En) (f : α → En → O β) : O.bind (.ok a ε) f = f a ε := rfl
theorem O.bind_congr {α β : Type} {o o' : O α} {f : α → En → O β} (h : o = o') : O.bind o f = O.bind o' f := by rw [h]
@[simp] theorem O.bind_exn {α β : Type} (c : Nat) (ε : En) (f : α → En → O β) : O.bind (.exn c ε) f = .exn c ε := rfl

section
variable {K : PySem.W.Frag} {T : Tab} {W : WX}
/-- an outcome from the state F H σ ε, its value as S says -/
def Po {α : Type} (K : PySem.W.Frag) (T : Tab) (W : WX) (F H : Hp) (σ : L2.St) (ε : En) (o : O α) (S : α → En → Hp → Hp → Prop) : Prop :=
  match o with
  | .bad => False
  | .ok a ε' => ∀ F' H', Ok K T F' H' σ ε' → Ext F H σ ε F' H' σ ε' → S a ε' F' H'
  | .exn c ε' => ∀ F' H', Ok K T F' H' σ ε' → Ext F H σ ε F' H' σ ε' → W (.ref (T.cls c)) none σ H'
theorem Po.rebase {α : Type} {F H F1 H1 : Hp} {σ : L2.St} {ε ε1 : En} {o : O α} {S : α → En → Hp → Hp → Prop} (p : Po K T W F H σ ε o S) (x : Ext F H σ ε F1 H1 σ ε1) : Po K T W F1 H1 σ ε1 o S := by
  cases o with
  | bad => exact p
  | ok a ε' => exact fun F' H' k y => p F' H' k (x.trans y)
  | exn c ε' => exact fun F' H' k y => p F' H' k (x.trans y)
theorem Po.mono {α : Type} {F H : Hp} {σ : L2.St} {ε : En} {o : O α} {S S' : α → En → Hp → Hp → Prop} (p : Po K T W F H σ ε o S) (h : ∀ a ε' F' H', Ok K T F' H' σ ε' → Ext F H σ ε F' H' σ ε' → S a ε' F' H' → S' a ε' F' H') : Po K T W F H σ ε o S' := by
  cases o with
  | bad => exact p
  | ok a ε' => exact fun F' H' k y => h _ _ _ _ k y (p F' H' k y)
  | exn c ε' => exact p
/-- the value of an expression, made since H -/
def SE (K : PySem.W.Frag) (T : Tab) (H : Hp) (σ : L2.St) (Q : VK) : R → En → Hp → Hp → Prop := fun r ε' F' H' => ∀ v, RpR K T F' H' σ ε' r v → (∀ a ∈ newA r v, H a = none) → Q v H'
def SA (K : PySem.W.Frag) (T : Tab) (H : Hp) (σ : L2.St) (Q : List V → Hp → Prop) : List R → En → Hp → Hp → Prop := fun rs ε' F' H' => ∀ vs, RpRs K T F' H' σ ε' rs vs → (∀ a ∈ newAs rs vs, H a = none) → (newAs rs vs).Nodup → Q vs H'
def tD (K : PySem.W.Frag) (T : Tab) (W : WX) (f : En → O R) : TE := fun σ H Q => ∃ F ε, Ok K T F H σ ε ∧ Po K T W F H σ ε (f ε) (SE K T H σ Q)
def tDT (K : PySem.W.Frag) (T : Tab) (W : WX) (f : En → O Bool) : TT := fun σ H Q => ∃ F ε, Ok K T F H σ ε ∧ Po K T W F H σ ε (f ε) (fun b _ _ H' => Q b H')
def tDA (K : PySem.W.Frag) (T : Tab) (W : WX) (f : En → O (List R)) : TA := fun σ H Q => ∃ F ε, Ok K T F H σ ε ∧ Po K T W F H σ ε (f ε) (SA K T H σ Q)

theorem tD_mono {f : En → O R} {σ : L2.St} {H : Hp} {Q Q' : VK} (h : tD K T W f σ H Q) (w : ∀ v H', Q v H' → Q' v H') : tD K T W f σ H Q' := by
  obtain ⟨F, ε, k, p⟩ := h
  exact ⟨F, ε, k, p.mono fun r ε' F' H' _ _ s v hr hn => w _ _ (s v hr hn)⟩
/-- an expression, then the rest; all is told from a state ahead (F0 H0 ε0) -/
theorem tD_use {α : Type} {f : En → O R} {g : R → En → O α} {F0 H0 F H : Hp} {σ : L2.St} {ε0 ε : En} {S : α → En → Hp → Hp → Prop} {Q : VK} (k : Ok K T F H σ ε) (x0 : Ext F0 H0 σ ε0 F H σ ε) (p : Po K T W F0 H0 σ ε0 ((f ε).bind g) S)
    (h : ∀ v F1 H1 r ε1, Ok K T F1 H1 σ ε1 → Ext F H σ ε F1 H1 σ ε1 → Ext F0 H0 σ ε0 F1 H1 σ ε1 → RpR K T F1 H1 σ ε1 r v → (∀ a ∈ newA r v, H a = none) → Po K T W F0 H0 σ ε0 (g r ε1) S → Q v H1) : tD K T W f σ H Q := by
  refine ⟨F, ε, k, ?_⟩
  cases e : f ε with
  | bad => rw [e] at p; exact p
  | ok r ε1 =>
    rw [e] at p
    exact fun F1 H1 k1 x1 v hr hn => h v F1 H1 r ε1 k1 x1 (x0.trans x1) hr hn p
  | exn c ε1 =>
    rw [e] at p
    exact fun F1 H1 k1 x1 => p F1 H1 k1 (x0.trans x1)
theorem tDT_use {α : Type} {f : En → O Bool} {g : Bool → En → O α} {F0 H0 F H : Hp} {σ : L2.St} {ε0 ε : En} {S : α → En → Hp → Hp → Prop} {Q : Bool → Hp → Prop} (k : Ok K T F H σ ε) (x0 : Ext F0 H0 σ ε0 F H σ ε) (p : Po K T W F0 H0 σ ε0 ((f ε).bind g) S)
    (h : ∀ b F1 H1 ε1, Ok K T F1 H1 σ ε1 → Ext F H σ ε F1 H1 σ ε1 → Ext F0 H0 σ ε0 F1 H1 σ ε1 → Po K T W F0 H0 σ ε0 (g b ε1) S → Q b H1) : tDT K T W f σ H Q := by
  refine ⟨F, ε, k, ?_⟩
  cases e : f ε with
  | bad => rw [e] at p; exact p
  | ok b ε1 =>
    rw [e] at p
    exact fun F1 H1 k1 x1 => h b F1 H1 ε1 k1 x1 (x0.trans x1) p
  | exn c ε1 =>
    rw [e] at p
    exact fun F1 H1 k1 x1 => p F1 H1 k1 (x0.trans x1)
theorem tDA_use {α : Type} {f : En → O (List R)} {g : List R → En → O α} {F0 H0 F H : Hp} {σ : L2.St} {ε0 ε : En} {S : α → En → Hp → Hp → Prop} {Q : List V → Hp → Prop} (k : Ok K T F H σ ε) (x0 : Ext F0 H0 σ ε0 F H σ ε) (p : Po K T W F0 H0 σ ε0 ((f ε).bind g) S)
    (h : ∀ vs F1 H1 rs ε1, Ok K T F1 H1 σ ε1 → Ext F H σ ε F1 H1 σ ε1 → Ext F0 H0 σ ε0 F1 H1 σ ε1 → RpRs K T F1 H1 σ ε1 rs vs → (∀ a ∈ newAs rs vs, H a = none) → (newAs rs vs).Nodup → Po K T W F0 H0 σ ε0 (g rs ε1) S → Q vs H1) : tDA K T W f σ H Q := by
  refine ⟨F, ε, k, ?_⟩
  cases e : f ε with
  | bad => rw [e] at p; exact p
  | ok r ε1 =>
    rw [e] at p
    exact fun F1 H1 k1 x1 v hr hn nd => h v F1 H1 r ε1 k1 x1 (x0.trans x1) hr hn nd p
  | exn c ε1 =>
    rw [e] at p
    exact fun F1 H1 k1 x1 => p F1 H1 k1 (x0.trans x1)
end

theorem PE.imp {X : Cx} {e : Expr} {t t' : TE} (h : PE X e t) (w : ∀ σ H Q, t' σ H Q → t σ H Q) : PE X e t' := ⟨fun pins s σ H Q I q => h.run pins s σ H Q I (w σ H Q q)⟩
theorem PT.imp {X : Cx} {e : Expr} {t t' : TT} (h : PT X e t) (w : ∀ σ H Q, t' σ H Q → t σ H Q) : PT X e t' := ⟨fun pins s σ H Q I q => h.run pins s σ H Q I (w σ H Q q)⟩
theorem PW.imp {X : Cx} {e : Expr} {t t' : TT} (h : PW X e t) (w : ∀ σ H Q, t' σ H Q → t σ H Q) : PW X e t' := ⟨fun wh pins s σ H Q I q => h.run wh pins s σ H Q I (w σ H Q q)⟩
theorem PA.imp {X : Cx} {es : List Expr} {t t' : TA} (h : PA X es t) (w : ∀ σ H Q, t' σ H Q → t σ H Q) : PA X es t' := ⟨fun pos pins s σ H Q I q => h.run pos pins s σ H Q I (w σ H Q q)⟩
theorem PS.imp {X : Cx} {st : Stmt} {t t' : TS} (h : PS X st t) (w : ∀ D σ H, t' D σ H → t D σ H) : PS X st t' := ⟨fun pins s σ H D I q => h.run pins s σ H D I (w D σ H q)⟩
theorem PSs.imp {X : Cx} {st : List Stmt} {t t' : TS} (h : PSs X st t) (w : ∀ D σ H, t' D σ H → t D σ H) : PSs X st t' := ⟨fun pins s σ H D I q => h.run pins s σ H D I (w D σ H q)⟩

abbrev DE (X : Cx) (T : Tab) (W : WX) (e : Expr) (f : En → O R) : Prop := PE X e (tD X.K T W f)
abbrev DT (X : Cx) (T : Tab) (W : WX) (e : Expr) (f : En → O Bool) : Prop := PT X e (tDT X.K T W f)
abbrev DW (X : Cx) (T : Tab) (W : WX) (e : Expr) (f : En → O Bool) : Prop := PW X e (tDT X.K T W f)
abbrev DA (X : Cx) (T : Tab) (W : WX) (es : List Expr) (f : En → O (List R)) : Prop := PA X es (tDA X.K T W f)

section
variable {X : Cx} {T : Tab} {W : WX} {e a b c : Expr} {es : List Expr} {f fa fb fc : En → O R} {pos : Pos}

/-! ### names, constants -/
def vSlot (ε : En) (i : Nat) : O R :=
  match ε[i]? with
  | some (.fz d) => .ok (.fz d) ε
  | some (.own _) => .ok (.at i) ε
  | _ => .bad
/-- the name in slot i -/
def dVar (i : Nat) : En → O R := fun ε => vSlot ε i
theorem de_var (i : Nat) {x : Str} {p : Pos} (h : PE X (.Name x p) (tVar i)) : DE X T W (.Name x p) (dVar i) := by
  refine PE.imp h fun σ H Q q => ?_
  obtain ⟨F, ε, k, q⟩ := q
  unfold dVar vSlot at q
  cases hs : ε[i]? with
  | none => rw [hs] at q; exact q.elim
  | some u =>
    rw [hs] at q
    cases u with
    | no => exact q.elim
    | fz d =>
      obtain ⟨v, e1, r⟩ := k.fz i d hs
      exact ⟨v, e1, q F H k Ext.refl v r (by simp [newA])⟩
    | own d =>
      obtain ⟨a, o, e1, _⟩ := k.own i d hs
      exact ⟨.ref a, e1, q F H k Ext.refl (.ref a) e1 (by simp [newA])⟩
def flat : D → Bool
  | .non => true | .bl _ => true | .int _ => true | .str _ => true | .fn _ => true | .ty _ => true
  | _ => false
theorem flat_rp {K : PySem.W.Frag} {F F' : Hp} {d : D} {v : V} (h : flat d = true) (r : Rp K T F d v) : Rp K T F' d v := by
  cases d with
  | non => exact rp_non.mpr (rp_non.mp r)
  | bl b => exact rp_bl.mpr (rp_bl.mp r)
  | int b => exact rp_int.mpr (rp_int.mp r)
  | str b => exact rp_str.mpr (rp_str.mp r)
  | fn b => exact rp_fn.mpr (rp_fn.mp r)
  | ty b => exact rp_ty.mpr (rp_ty.mp r)
  | _ => cases h
/-- a constant -/
def dC (d : D) : En → O R := fun ε => .ok (.fz d) ε
theorem de_const {v : V} {d : D} (h : PE X e (tC v)) (r : ∀ F, Rp X.K T F d v) : DE X T W e (dC d) := by
  refine PE.imp h fun σ H Q q => ?_
  obtain ⟨F, ε, k, q⟩ := q
  exact q F H k Ext.refl v (r F) (by simp [newA])
theorem de_int {i : Int} {j : Nat} : DE X T W (.Constant (.int i) j pos) (dC (.int i)) := de_const pe_int fun _ => rp_int.mpr rfl
theorem de_bl {i : Bool} {j : Nat} : DE X T W (.Constant (.bool i) j pos) (dC (.bl i)) := de_const pe_bl fun _ => rp_bl.mpr rfl
theorem de_non {j : Nat} : DE X T W (.Constant .none j pos) (dC .non) := de_const pe_non fun _ => rp_non.mpr rfl
theorem de_str {x : Str} {j : Nat} : DE X T W (.Constant (.str x) j pos) (dC (.str x)) := de_const pe_str fun _ => rp_str.mpr rfl
/-- a number of the module -/
theorem de_glob {x : Str} {i : Int} {t : Tok} (hg : Gl X x) (hm : X.mg x = some (.int i t)) (hd : (x == ("__debug__" : Str)) = false := by decide) : DE X T W (.Name x pos) (dC (.int i)) :=
  de_const (pe_glob (v := .int i) hg hm ⟨_, rfl⟩ hd) fun _ => rp_int.mpr rfl

/-! ### operators whose answer is flat -/
def vOp2 (g : D → D → Option D) (ε : En) (r1 r2 : R) : O R :=
  match res ε r1, res ε r2 with
  | some d1, some d2 => match g d1 d2 with
    | some d => .ok (.fz d) ε
    | none => .bad
  | _, _ => .bad
def dOp2 (g : D → D → Option D) (fa fb : En → O R) : En → O R := fun ε => (fa ε).bind fun r1 ε1 => (fb ε1).bind fun r2 ε2 => vOp2 g ε2 r1 r2
/-- two expressions, the second after the first -/
theorem two_use {α : Type} {K : PySem.W.Frag} {g : R → R → En → O α} {F0 H0 F H : Hp} {σ : L2.St} {ε0 ε : En} {S : α → En → Hp → Hp → Prop} {P : V → V → Hp → Prop} (k : Ok K T F H σ ε) (x0 : Ext F0 H0 σ ε0 F H σ ε) (p : Po K T W F0 H0 σ ε0 ((fa ε).bind fun r1 ε1 => (fb ε1).bind fun r2 ε2 => g r1 r2 ε2) S)
    (h : ∀ v1 v2 F2 H2 r1 r2 ε2, Ok K T F2 H2 σ ε2 → Ext F H σ ε F2 H2 σ ε2 → Ext F0 H0 σ ε0 F2 H2 σ ε2 → RpR K T F2 H2 σ ε2 r1 v1 → RpR K T F2 H2 σ ε2 r2 v2 → (∀ a ∈ newA r1 v1, H a = none) → (∀ a ∈ newA r2 v2, H a = none) → (∀ a ∈ newA r2 v2, a ∉ newA r1 v1) → Po K T W F0 H0 σ ε0 (g r1 r2 ε2) S → P v1 v2 H2) :
    tD K T W fa σ H fun v1 H1 => tD K T W fb σ H1 fun v2 H2 => P v1 v2 H2 := by
  refine tD_use k x0 p fun v1 F1 H1 r1 ε1 k1 x1 y1 q1 n1 p1 => ?_
  refine tD_use k1 y1 p1 fun v2 F2 H2 r2 ε2 k2 x2 y2 q2 n2 p2 => ?_
  refine h v1 v2 F2 H2 r1 r2 ε2 k2 (x1.trans x2) y2 (q1.ext x2) q2 n1 (fun a ha => x1.ht a (n2 a ha)) (fun a ha hb => ?_) p2
  cases r1 with
  | new d =>
    obtain ⟨b, o, rfl, f, g', _⟩ := q1
    have e : a = b := by simpa [newA] using hb
    subst e
    rw [n2 _ ha] at g'; cases g'
  | fz d => simp [newA] at hb
  | «at» i => simp [newA] at hb
/-- the answer is there -/
theorem SE.fin {K : PySem.W.Frag} {Hs F0 H0 F H : Hp} {σ : L2.St} {ε0 ε : En} {Q : VK} {r : R} {v : V} (k : Ok K T F H σ ε) (x : Ext F0 H0 σ ε0 F H σ ε) (p : Po K T W F0 H0 σ ε0 (.ok r ε) (SE K T Hs σ Q)) (h : RpR K T F H σ ε r v) (hn : ∀ a ∈ newA r v, Hs a = none) : Q v H :=
  p F H k x v h hn
theorem SE.flat {K : PySem.W.Frag} {Hs F0 H0 F H H' : Hp} {σ : L2.St} {ε0 ε : En} {Q : VK} {d : D} {v : V} (k : Ok K T F H σ ε) (x : Ext F0 H0 σ ε0 F H σ ε) (p : Po K T W F0 H0 σ ε0 (.ok (.fz d) ε) (SE K T Hs σ Q)) (hf : flat d = true) (h : Rp K T H' d v) : Q v H :=
  SE.fin k x p (flat_rp hf h) (by simp [newA])
/-- a rule on values, at data with a flat answer -/
def Op2 (K : PySem.W.Frag) (T : Tab) (g : D → D → Option D) (r : R2) : Prop :=
  ∀ d1 d2 d x y H Q, g d1 d2 = some d → Rp K T H d1 x → Rp K T H d2 y → (∀ v, Rp K T H d v → Q v H) → flat d = true ∧ r x y H Q
theorem op2_use {g : D → D → Option D} {r : R2} (hg : Op2 X.K T g r) {σ : L2.St} {H : Hp} {Q : VK} (q : tD X.K T W (dOp2 g fa fb) σ H Q) : tOp r (tD X.K T W fa) (tD X.K T W fb) σ H Q := by
  obtain ⟨F, ε, k, p⟩ := q
  refine two_use (g := fun r1 r2 ε2 => vOp2 g ε2 r1 r2) k Ext.refl p fun v1 v2 F2 H2 r1 r2 ε2 k2 _ x2 q1 q2 n1 n2 nd p2 => ?_
  unfold vOp2 at p2
  cases e1 : res ε2 r1 with
  | none => rw [e1] at p2; exact p2.elim
  | some d1 =>
    cases e2 : res ε2 r2 with
    | none => rw [e1, e2] at p2; exact p2.elim
    | some d2 =>
      rw [e1, e2] at p2
      cases e3 : g d1 d2 with
      | none => simp only [e3] at p2; exact p2.elim
      | some d =>
        simp only [e3] at p2
        have a1 := res_rp k2 q1 e1
        have a2 := res_rp k2 q2 e2
        have hf := (hg d1 d2 d v1 v2 H2 (fun _ _ => True) e3 a1 a2 fun _ _ => trivial).1
        exact (hg d1 d2 d v1 v2 H2 Q e3 a1 a2 fun v hv => SE.flat k2 x2 p2 hf hv).2
theorem de_op {op : Operator} {g : D → D → Option D} {r : R2} (ho : OpR X (binaryOp op) r) (hg : Op2 X.K T g r) (ha : DE X T W a fa) (hb : DE X T W b fb) : DE X T W (.BinOp a op b pos) (dOp2 g fa fb) :=
  PE.imp (pe_op ho ha hb) fun _ _ _ q => op2_use hg q
theorem de_cmp {op : CmpOp} {g : D → D → Option D} {r : R2} (ho : OpR X (compareOp op) r) (hg : Op2 X.K T g r) (ha : DE X T W a fa) (hb : DE X T W b fb) (hm : behindInMarks op b = false) : DE X T W (.Compare a [op] [b] pos) (dOp2 g fa fb) :=
  PE.imp (pe_cmpR ho ha hb hm) fun _ _ _ q => op2_use hg q

/-! ### tests -/
/-- the truth of an expression whose answer is a bool -/
def vBool (ε : En) (r : R) : O Bool :=
  match res ε r with
  | some (.bl b) => .ok b ε
  | _ => .bad
def dTst (f : En → O R) : En → O Bool := fun ε => (f ε).bind fun r ε1 => vBool ε1 r
theorem tst_use {σ : L2.St} {H : Hp} {Q : Bool → Hp → Prop} {K : PySem.W.Frag} (q : tDT K T W (dTst f) σ H Q) : tD K T W f σ H fun x H' => ∃ k, x = .bl k ∧ Q k H' := by
  obtain ⟨F, ε, k, p⟩ := q
  refine tD_use (g := fun r ε1 => vBool ε1 r) k Ext.refl p fun v F1 H1 r ε1 k1 x1 _ q1 n1 p1 => ?_
  unfold vBool at p1
  split at p1
  · rename_i b hb
    exact ⟨b, rp_bl.mp (res_rp k1 q1 hb), p1 F1 H1 k1 x1⟩
  · exact p1.elim
theorem dt_cmp {op : CmpOp} {g : D → D → Option D} {r : R2} (ho : OpR X (compareOp op) r) (hg : Op2 X.K T g r) (ha : DE X T W a fa) (hb : DE X T W b fb) (hm : behindInMarks op b = false) : DT X T W (.Compare a [op] [b] pos) (dTst (dOp2 g fa fb)) := by
  refine PT.imp (pt_cmpR ho ha hb hm) fun σ H Q q => ?_
  exact op2_use hg (tst_use q)
theorem dt_val (he : DE X T W e f) (hp : ∀ whole, isTrue e X.env whole = (do let v ← whole; standAt e.pos; holding [v] (truthy v)) := by intro _; rfl) : DT X T W e (dTst f) :=
  PT.imp (pt_val he hp) fun _ _ _ q => tst_use q
/-- the truth of any value -/
def truth : D → Option Bool
  | .non => some false
  | .bl b => some b
  | .int i => some (i != 0)
  | .lst ds => some (!ds.isEmpty)
  | .tup ds => some (!ds.isEmpty)
  | _ => none
def vTru (ε : En) (r : R) : O Bool :=
  match res ε r with
  | some d => match truth d with
    | some b => .ok b ε
    | none => .bad
  | none => .bad
def dTru (f : En → O R) : En → O Bool := fun ε => (f ε).bind fun r ε1 => vTru ε1 r
theorem rps_isEmpty {K : PySem.W.Frag} {F : Hp} {ds : List D} {vs : List V} (h : Rps K T F ds vs) : vs.isEmpty = ds.isEmpty := by
  cases ds with
  | nil => rw [rps_nil.mp h]; rfl
  | cons d ds => obtain ⟨v, r, e, _⟩ := rps_cons.mp h; rw [e]; rfl
theorem dt_tru (he : DE X T W e f) (hp : ∀ whole, isTrue e X.env whole = (do let v ← whole; standAt e.pos; holding [v] (truthy v)) := by intro _; rfl) : DT X T W e (dTru f) := by
  refine PT.imp (pt_truth he hp) fun σ H Q q => ?_
  obtain ⟨F, ε, k, p⟩ := q
  refine tD_use (g := fun r ε1 => vTru ε1 r) k Ext.refl p fun v F1 H1 r ε1 k1 x1 _ q1 n1 p1 => ?_
  unfold vTru at p1
  cases e1 : res ε1 r with
  | none => rw [e1] at p1; exact p1.elim
  | some d =>
    simp only [e1] at p1
    cases e2 : truth d with
    | none => simp only [e2] at p1; exact p1.elim
    | some b =>
      simp only [e2] at p1
      have rr := res_rp k1 q1 e1
      refine ⟨b, ?_, p1 F1 H1 k1 x1⟩
      cases d with
      | non => cases e2; rw [rp_non.mp rr]; exact rfl
      | bl b' => cases e2; rw [rp_bl.mp rr]; exact rfl
      | int i => cases e2; rw [rp_int.mp rr]; exact rfl
      | lst ds =>
        cases e2
        obtain ⟨a, vs, rfl, hq, hr⟩ := rp_lst.mp rr
        exact .inl ⟨vs, hq, by rw [rps_isEmpty hr]⟩
      | tup ds =>
        cases e2
        obtain ⟨a, vs, rfl, hq, hr⟩ := rp_tupT rr
        exact .inr (.inl ⟨vs, hq, by rw [rps_isEmpty hr]⟩)
      | _ => cases e2
/-! and, or, not -/
def dAnd (f g : En → O Bool) : En → O Bool := fun ε => (f ε).bind fun b ε1 => if b = true then g ε1 else .ok false ε1
def dOr (f g : En → O Bool) : En → O Bool := fun ε => (f ε).bind fun b ε1 => if b = true then .ok true ε1 else g ε1
def dNot (f : En → O Bool) : En → O Bool := fun ε => (f ε).bind fun b ε1 => .ok (!b) ε1
variable {ft gt : En → O Bool} {rest : List Expr}
theorem dw_and1 (ha : DT X T W a ft) : DW X T W (.BoolOp .And [a] pos) ft := pw_and1 ha
theorem dw_or1 (ha : DT X T W a ft) : DW X T W (.BoolOp .Or [a] pos) ft := pw_or1 ha
theorem dw_and (ha : DT X T W a ft) (hb : DW X T W (.BoolOp .And (b :: rest) pos) gt) : DW X T W (.BoolOp .And (a :: b :: rest) pos) (dAnd ft gt) := by
  refine PW.imp (pw_and ha hb) fun σ H Q q => ?_
  obtain ⟨F, ε, k, p⟩ := q
  refine tDT_use (g := fun b ε1 => if b = true then gt ε1 else .ok false ε1) k Ext.refl p fun c F1 H1 ε1 k1 x1 _ p1 => ?_
  cases c with
  | true => exact ⟨F1, ε1, k1, p1.rebase x1⟩
  | false => exact p1 F1 H1 k1 x1
theorem dw_or (ha : DT X T W a ft) (hb : DW X T W (.BoolOp .Or (b :: rest) pos) gt) : DW X T W (.BoolOp .Or (a :: b :: rest) pos) (dOr ft gt) := by
  refine PW.imp (pw_or ha hb) fun σ H Q q => ?_
  obtain ⟨F, ε, k, p⟩ := q
  refine tDT_use (g := fun b ε1 => if b = true then .ok true ε1 else gt ε1) k Ext.refl p fun c F1 H1 ε1 k1 x1 _ p1 => ?_
  cases c with
  | false => exact ⟨F1, ε1, k1, p1.rebase x1⟩
  | true => exact p1 F1 H1 k1 x1
theorem dt_bool (h : DW X T W e ft) : DT X T W e ft := PW.pt h
theorem dt_not (ha : DT X T W a ft) : DT X T W (.UnaryOp .Not a pos) (dNot ft) := by
  refine PT.imp (pt_not ha) fun σ H Q q => ?_
  obtain ⟨F, ε, k, p⟩ := q
  exact tDT_use (g := fun b ε1 => .ok (!b) ε1) k Ext.refl p fun c F1 H1 ε1 k1 x1 _ p1 => p1 F1 H1 k1 x1
/-- .. as values: all but the last are bools -/
def dAndV (f g : En → O R) : En → O R := fun ε => (dTst f ε).bind fun b ε1 => if b = true then g ε1 else .ok (.fz (.bl false)) ε1
def dOrV (f g : En → O R) : En → O R := fun ε => (dTst f ε).bind fun b ε1 => if b = true then .ok (.fz (.bl true)) ε1 else g ε1
def dNotV (f : En → O R) : En → O R := fun ε => (dTst f ε).bind fun b ε1 => .ok (.fz (.bl (!b))) ε1
theorem tstV_use {α : Type} {K : PySem.W.Frag} {g : Bool → En → O α} {F0 H0 F H : Hp} {σ : L2.St} {ε0 ε : En} {S : α → En → Hp → Hp → Prop} {P : Bool → Hp → Prop} (k : Ok K T F H σ ε) (x0 : Ext F0 H0 σ ε0 F H σ ε) (p : Po K T W F0 H0 σ ε0 ((dTst f ε).bind g) S)
    (h : ∀ b F1 H1 ε1, Ok K T F1 H1 σ ε1 → Ext F H σ ε F1 H1 σ ε1 → Ext F0 H0 σ ε0 F1 H1 σ ε1 → Po K T W F0 H0 σ ε0 (g b ε1) S → P b H1) : tD K T W f σ H fun x H1 => ∃ c, x = .bl c ∧ P c H1 := by
  refine tst_use ?_
  exact tDT_use k x0 p h
theorem de_one {op} (h : DE X T W a f) : DE X T W (.BoolOp op [a] pos) f := pe_one h
theorem de_and (ha : DE X T W a fa) (hb : DE X T W (.BoolOp .And (b :: rest) pos) fb) : DE X T W (.BoolOp .And (a :: b :: rest) pos) (dAndV fa fb) := by
  refine PE.imp (pe_and ha hb) fun σ H Q q => ?_
  obtain ⟨F, ε, k, p⟩ := q
  refine tstV_use k Ext.refl p fun c F1 H1 ε1 k1 x1 _ p1 => ?_
  cases c with
  | true => exact ⟨F1, ε1, k1, (p1.rebase x1).mono fun r ε' F' H' _ _ s v hr hn => s v hr fun a ha => x1.ht a (hn a ha)⟩
  | false => exact SE.flat (d := .bl false) (v := .bl false) (H' := H1) k1 x1 p1 rfl (rp_bl.mpr rfl)
theorem de_or (ha : DE X T W a fa) (hb : DE X T W (.BoolOp .Or (b :: rest) pos) fb) : DE X T W (.BoolOp .Or (a :: b :: rest) pos) (dOrV fa fb) := by
  refine PE.imp (pe_or ha hb) fun σ H Q q => ?_
  obtain ⟨F, ε, k, p⟩ := q
  refine tstV_use k Ext.refl p fun c F1 H1 ε1 k1 x1 _ p1 => ?_
  cases c with
  | false => exact ⟨F1, ε1, k1, (p1.rebase x1).mono fun r ε' F' H' _ _ s v hr hn => s v hr fun a ha => x1.ht a (hn a ha)⟩
  | true => exact SE.flat (d := .bl true) (v := .bl true) (H' := H1) k1 x1 p1 rfl (rp_bl.mpr rfl)
theorem de_not (ha : DE X T W a fa) : DE X T W (.UnaryOp .Not a pos) (dNotV fa) := by
  refine PE.imp (pe_not ha) fun σ H Q q => ?_
  obtain ⟨F, ε, k, p⟩ := q
  refine tstV_use (g := fun b ε1 => O.ok (R.fz (D.bl (!b))) ε1) k Ext.refl p fun c F1 H1 ε1 k1 x1 _ p1 => ?_
  exact SE.flat (d := .bl (!c)) (v := .bl (!c)) (H' := H1) k1 x1 p1 rfl (rp_bl.mpr rfl)
/-- a if c else b -/
def dIfE (ft : En → O Bool) (fa fb : En → O R) : En → O R := fun ε => (ft ε).bind fun c ε1 => if c = true then fa ε1 else fb ε1
theorem de_ifE (hc : DT X T W c ft) (ha : DE X T W a fa) (hb : DE X T W b fb) : DE X T W (.IfExp c a b pos) (dIfE ft fa fb) := by
  refine PE.imp (pe_ifExp hc ha hb) fun σ H Q q => ?_
  obtain ⟨F, ε, k, p⟩ := q
  refine tDT_use (g := fun c ε1 => if c = true then fa ε1 else fb ε1) k Ext.refl p fun d F1 H1 ε1 k1 x1 _ p1 => ?_
  cases d with
  | true => exact ⟨F1, ε1, k1, (p1.rebase x1).mono fun r ε' F' H' _ _ s v hr hn => s v hr fun a ha => x1.ht a (hn a ha)⟩
  | false => exact ⟨F1, ε1, k1, (p1.rebase x1).mono fun r ε' F' H' _ _ s v hr hn => s v hr fun a ha => x1.ht a (hn a ha)⟩
end
end DL

/-! DL3: new objects, argument lists, statements -/
namespace DL
open PySem PySem.Spec PyProof.Rows L2

section
variable {K : PySem.W.Frag} {T : Tab} {W : WX} {F F' H : Hp} {σ : L2.St} {ε : En} {p : Addr} {o : HO}
theorem ok_alloc (k : Ok K T F H σ ε) (hp : H p = none) : Ok K T F (upd H p o) σ ε where
  sub := fun b u e => by rw [upd_ne (ne_of_none (k.sub _ _ e) hp)]; exact k.sub _ _ e
  len := k.len
  fz := k.fz
  own := fun i d e => by
    obtain ⟨a, u, e1, f, g, r⟩ := k.own i d e
    exact ⟨a, u, e1, f, by rw [upd_ne (ne_of_none g hp)]; exact g, r⟩
  sep := k.sep
theorem Ext.alloc {F0 H0 : Hp} {σ0 : L2.St} {ε0 : En} (x : Ext F0 H0 σ0 ε0 F H σ ε) (hp : H p = none) : Ext F0 H0 σ0 ε0 F (upd H p o) σ ε where
  fs := x.fs
  hk := fun a u e n => by
    have := x.hk a u e n
    rw [upd_ne (ne_of_none this hp)]; exact this
  ht := fun a e => by
    by_cases h : a = p
    · subst h; rw [upd_same] at e; cases e
    · rw [upd_ne h] at e; exact x.ht a e
  fn := x.fn
  on := x.on
theorem not_own_fresh (k : Ok K T F H σ ε) (hp : H p = none) : ¬ OwnAt σ ε p := fun ⟨i, d, e, s⟩ => by
  obtain ⟨a, u, e1, _, g, _⟩ := k.own i d e
  rw [s] at e1; cases e1
  rw [hp] at g; cases g
theorem free_of (k : Ok K T F H σ ε) (hp : H p = none) : F p = none := by
  cases e : F p with
  | none => rfl
  | some u => rw [k.sub _ _ e] at hp; cases hp
/-- .. and frozen -/
theorem ok_allocF (k : Ok K T F H σ ε) (hp : H p = none) : Ok K T (upd F p o) (upd H p o) σ ε :=
  ok_freeze (ok_alloc k hp) (free_of k hp) upd_same fun z => not_own_fresh k hp z
theorem Ext.allocF {F0 H0 : Hp} {σ0 : L2.St} {ε0 : En} (x : Ext F0 H0 σ0 ε0 F H σ ε) (k : Ok K T F H σ ε) (hp : H p = none) : Ext F0 H0 σ0 ε0 (upd F p o) (upd H p o) σ ε where
  fs := x.fs.trans (same_upd (free_of k hp))
  hk := (x.alloc hp).hk
  ht := (x.alloc hp).ht
  fn := fun a h => by
    by_cases e : a = p
    · subst e; exact .inr (.inl (x.ht _ hp))
    · rw [upd_ne e] at h; exact x.fn a h
  on := x.on
/-- a new object is the answer -/
theorem SE.new {F0 H0 : Hp} {ε0 : En} {Q : VK} {d : D} (k : Ok K T F H σ ε) (x : Ext F0 H0 σ ε0 F H σ ε) (q : Po K T W F0 H0 σ ε0 (.ok (.new d) ε) (SE K T H0 σ Q)) (hp : H p = none) (r : RpO K T F d o) : Q (.ref p) (upd H p o) :=
  q F (upd H p o) (ok_alloc k hp) (x.alloc hp) (.ref p) ⟨p, o, rfl, free_of k hp, upd_same, r, not_own_fresh k hp⟩ fun a ha => by
    have e : a = p := by simpa [newA] using ha
    subst e; exact x.ht _ hp
/-- a new tuple is the answer -/
theorem SE.newT {F0 H0 Hs : Hp} {ε0 : En} {Q : VK} {ds : List D} {vs : List V} (k : Ok K T F H σ ε) (x : Ext F0 H0 σ ε0 F H σ ε) (q : Po K T W F0 H0 σ ε0 (.ok (.fz (.tup ds)) ε) (SE K T Hs σ Q)) (hp : H p = none) (r : Rps K T F ds vs) {o : Obj} (ho : o.dict = none) : Q (.ref p) (upd H p (.frz o (.tup vs))) :=
  q (upd F p (.frz o (.tup vs))) (upd H p (.frz o (.tup vs))) (ok_allocF k hp) (x.allocF k hp) (.ref p) (rp_tup.mpr ⟨p, vs, rfl, .inl ⟨o, upd_same, ho⟩, Rps.mono (same_upd (free_of k hp)) _ _ r⟩) (by simp [newA])
end

section
variable {X : Cx} {T : Tab} {W : WX} {e a b c : Expr} {es : List Expr} {f fa fb fc : En → O R} {fs : En → O (List R)} {pos : Pos}

/-! ### argument lists, displays -/
def dNil : En → O (List R) := fun ε => .ok [] ε
def dCons (f : En → O R) (g : En → O (List R)) : En → O (List R) := fun ε => (f ε).bind fun r ε1 => (g ε1).bind fun rs ε2 => .ok (r :: rs) ε2
theorem da_nil : DA X T W [] dNil := by
  refine PA.imp pa_nil fun σ H Q q => ?_
  obtain ⟨F, ε, k, q⟩ := q
  exact q F H k Ext.refl [] rfl (by simp [newAs]) (by simp [newAs])
theorem da_cons (ha : DE X T W e f) (hr : DA X T W es fs) (hs : starEach (e :: es) X.env = (false, eval e X.env) :: starEach es X.env := by rfl) : DA X T W (e :: es) (dCons f fs) := by
  refine PA.imp (pa_cons ha hr hs) fun σ H Q q => ?_
  obtain ⟨F, ε, k, p⟩ := q
  refine tD_use (g := fun r ε1 => (fs ε1).bind fun rs ε2 => .ok (r :: rs) ε2) k Ext.refl p fun v F1 H1 r ε1 k1 x1 _ q1 n1 p1 => ?_
  refine tDA_use (g := fun rs ε2 => .ok (r :: rs) ε2) k1 x1 p1 fun vs F2 H2 rs ε2 k2 x2 y2 q2 n2 nd p2 => ?_
  refine p2 F2 H2 k2 y2 (v :: vs) ⟨v, vs, rfl, q1.ext x2, q2⟩ (fun a ha => ?_) ?_
  · rcases List.mem_append.mp (show a ∈ newA r v ++ newAs rs vs from ha) with h | h
    · exact n1 a h
    · exact x1.ht a (n2 a h)
  · show (newA r v ++ newAs rs vs).Nodup
    refine List.nodup_append.mpr ⟨?_, nd, fun a ha b hb e => ?_⟩
    · cases r <;> cases v <;> simp [newA]
    · subst e
      cases r with
      | new d =>
        obtain ⟨c, o, rfl, f', g', _⟩ := q1
        have ec : a = c := by simpa [newA] using ha
        subst ec
        rw [n2 _ hb] at g'; cases g'
      | fz d => simp [newA] at ha
      | «at» i => simp [newA] at ha
/-- a tuple -/
def vTup (ε : En) (rs : List R) : O R :=
  match frzs ε rs with
  | some (ds, ε') => if rs.length ≤ 1000 then .ok (.fz (.tup ds)) ε' else .bad
  | none => .bad
def dTup (fs : En → O (List R)) : En → O R := fun ε => (fs ε).bind fun rs ε1 => vTup ε1 rs
def vLst (ε : En) (rs : List R) : O R :=
  match frzs ε rs with
  | some (ds, ε') => if rs.length ≤ 1000 then .ok (.new (.lst ds)) ε' else .bad
  | none => .bad
def dLst (fs : En → O (List R)) : En → O R := fun ε => (fs ε).bind fun rs ε1 => vLst ε1 rs
theorem line1000 {n : Nat} (h : n ≤ 1000) : n ≤ sizeLine := by rw [sizeLine_eq]; omega
theorem line1M {n : Nat} (h : n ≤ 1000000) : n ≤ sizeLine := by rw [sizeLine_eq]; omega
theorem line1M' {n : Nat} (h : n < 1000000) : n < sizeLine := by rw [sizeLine_eq]; omega
/-- a new tuple as an object -/
theorem tup_new {X : Cx} {H : Hp} {h' : Heap} {xs : List V} {us : List Value} {o : Obj} {p : Addr} (e : h'.get? p = some o) (ho : o = { cls := .type "tuple", data := .seq us.toArray }) (r : Vals xs us) (z : xs.length ≤ sizeLine) : ObjOk X.prog X.w (upd H p (.frz o (.tup xs))) h' p (.frz o (.tup xs)) := by
  subst ho
  exact ⟨e, z, us, r, ⟨_, e, rfl, _, rfl⟩⟩
/-- a tuple is new -/
def NewT (Q : VK) (H : Hp) (xs : List V) : Prop := ∀ p o, H p = none → o.dict = none → Q (.ref p) (upd H p (.frz o (.tup xs)))
theorem pe_tupN {ta : TA} {x1} (h : PA X es ta) : PE X (.Tuple es x1 pos) (fun σ H Q => ta σ H fun xs H1 => xs.length ≤ sizeLine ∧ NewT Q H1 xs) := by
  refine ⟨fun pins s σ H Q I hq => ?_⟩
  refine wpAny_Tuple_spliced (thn (h.run pos pins s σ H _ I hq) fun us s1 ⟨xs, H1, I1, r, z, q⟩ => ⟨by rw [← r.length]; exact z, ?_⟩)
  have hf : H1 s1.heap.objs.size = none := I1.hok.fresh (Nat.le_refl _)
  exact ⟨.ref s1.heap.objs.size, _, I1.laid (t' := s1.toks) (fun b u e => Heap.get?_push_of_some _ e) (Nat.le_refl _) (tup_new (Heap.get?_push_size _ rfl) rfl r z), rfl, q _ _ hf rfl⟩
theorem de_tup {x1} (h : DA X T W es fs) : DE X T W (.Tuple es x1 pos) (dTup fs) := by
  refine PE.imp (pe_tupN h) fun σ H Q q => ?_
  obtain ⟨F, ε, k, p⟩ := q
  refine tDA_use (g := fun rs ε1 => vTup ε1 rs) k Ext.refl p fun vs F1 H1 rs ε1 k1 _ x1 q1 n1 nd p1 => ?_
  unfold vTup at p1
  split at p1
  · rename_i ds ε2 e1
    split at p1
    · rename_i hl
      obtain ⟨F2, k2, x2, r2, s2⟩ := frzs_ok x1 k1 q1 n1 nd e1
      exact ⟨line1000 (by rw [q1.length]; exact hl), fun p o hp ho => SE.newT k2 x2 p1 hp r2 ho⟩
    · exact p1.elim
  · exact p1.elim
theorem de_lst (h : DA X T W es fs) : DE X T W (.List es pos) (dLst fs) := by
  refine PE.imp (pe_lst h) fun σ H Q q => ?_
  obtain ⟨F, ε, k, p⟩ := q
  refine tDA_use (g := fun rs ε1 => vLst ε1 rs) k Ext.refl p fun vs F1 H1 rs ε1 k1 _ x1 q1 n1 nd p1 => ?_
  unfold vLst at p1
  split at p1
  · rename_i ds ε2 e1
    split at p1
    · rename_i hl
      obtain ⟨F2, k2, x2, r2, s2⟩ := frzs_ok x1 k1 q1 n1 nd e1
      exact ⟨line1000 (by rw [q1.length]; exact hl), fun p hp => SE.new k2 x2 p1 hp r2⟩
    · exact p1.elim
  · exact p1.elim

/-! ### statements -/
/-- how a statement ends -/
inductive Fl where
  | nx | bk | ct | rt (r : R)
/-- an outcome of a statement: the slots may be others, but those of P -/
def Ps {α : Type} (K : PySem.W.Frag) (T : Tab) (W : WX) (P : List Nat) (F H : Hp) (σ : L2.St) (ε : En) (o : O α) (S : α → En → Hp → Hp → L2.St → Prop) : Prop :=
  match o with
  | .bad => False
  | .ok a ε' => ∀ F' H' σ', Ok K T F' H' σ' ε' → Ext F H σ ε F' H' σ' ε' → (∀ i ∈ P, σ'[i]? = σ[i]?) → S a ε' F' H' σ'
  | .exn c ε' => ∀ F' H' σ', Ok K T F' H' σ' ε' → Ext F H σ ε F' H' σ' ε' → (∀ i ∈ P, σ'[i]? = σ[i]?) → W (.ref (T.cls c)) none σ' H'
theorem Ps.rebase {α : Type} {K : PySem.W.Frag} {P : List Nat} {F H F1 H1 : Hp} {σ σ1 : L2.St} {ε ε1 : En} {o : O α} {S : α → En → Hp → Hp → L2.St → Prop} (p : Ps K T W P F H σ ε o S) (x : Ext F H σ ε F1 H1 σ1 ε1) (hP : ∀ i ∈ P, σ1[i]? = σ[i]?) : Ps K T W P F1 H1 σ1 ε1 o S := by
  cases o with
  | bad => exact p
  | ok a ε' => exact fun F' H' σ' k y hy => p F' H' σ' k (x.trans y) fun i hi => (hy i hi).trans (hP i hi)
  | exn c ε' => exact fun F' H' σ' k y hy => p F' H' σ' k (x.trans y) fun i hi => (hy i hi).trans (hP i hi)
def SF (K : PySem.W.Frag) (T : Tab) (H : Hp) (D : Ends) : Fl → En → Hp → Hp → L2.St → Prop := fun fl ε' F' H' σ' =>
  match fl with
  | .nx => D.nx σ' H'
  | .bk => D.bk σ' H'
  | .ct => D.ct σ' H'
  | .rt r => ∀ v, RpR K T F' H' σ' ε' r v → (∀ a ∈ newA r v, H a = none) → D.rt v H'
theorem SF.imp {K : PySem.W.Frag} {H H1 : Hp} {D D1 : Ends} {fl : Fl} {ε' : En} {F' H' : Hp} {σ' : L2.St} (s : SF K T H D fl ε' F' H' σ') (h : ∀ a, H1 a = none → H a = none) (e1 : fl = .nx → D.nx σ' H' → D1.nx σ' H') (e2 : fl = .bk → D.bk σ' H' → D1.bk σ' H') (e3 : fl = .ct → D.ct σ' H' → D1.ct σ' H') (e4 : ∀ v, D.rt v H' → D1.rt v H') : SF K T H1 D1 fl ε' F' H' σ' := by
  cases fl with
  | nx => exact e1 rfl s
  | bk => exact e2 rfl s
  | ct => exact e3 rfl s
  | rt r => exact fun v hr hn => e4 v (s v hr fun a ha => h a (hn a ha))
theorem Ps.mono {α : Type} {K : PySem.W.Frag} {P : List Nat} {F H : Hp} {σ : L2.St} {ε : En} {o : O α} {S S' : α → En → Hp → Hp → L2.St → Prop} (p : Ps K T W P F H σ ε o S) (h : ∀ a ε' F' H' σ', Ok K T F' H' σ' ε' → Ext F H σ ε F' H' σ' ε' → (∀ i ∈ P, σ'[i]? = σ[i]?) → S a ε' F' H' σ' → S' a ε' F' H' σ') : Ps K T W P F H σ ε o S' := by
  cases o with
  | bad => exact p
  | ok a ε' => exact fun F' H' σ' k y hy => h _ _ _ _ _ k y hy (p F' H' σ' k y hy)
  | exn c ε' => exact p
def tDS (K : PySem.W.Frag) (T : Tab) (W : WX) (P : List Nat) (g : En → O Fl) : TS := fun D σ H => ∃ F ε, Ok K T F H σ ε ∧ Ps K T W P F H σ ε (g ε) (SF K T H D)
abbrev DS (X : Cx) (T : Tab) (W : WX) (P : List Nat) (st : Stmt) (g : En → O Fl) : Prop := PS X st (tDS X.K T W P g)
abbrev DSs (X : Cx) (T : Tab) (W : WX) (P : List Nat) (st : List Stmt) (g : En → O Fl) : Prop := PSs X st (tDS X.K T W P g)

/-- an expression, then the rest of a statement -/
theorem tD_useS {α : Type} {K : PySem.W.Frag} {P : List Nat} {g : R → En → O α} {F0 H0 F H : Hp} {σ0 σ : L2.St} {ε0 ε : En} {S : α → En → Hp → Hp → L2.St → Prop} {Q : VK} (k : Ok K T F H σ ε) (x0 : Ext F0 H0 σ0 ε0 F H σ ε) (hP : ∀ i ∈ P, σ[i]? = σ0[i]?) (p : Ps K T W P F0 H0 σ0 ε0 ((f ε).bind g) S)
    (h : ∀ v F1 H1 r ε1, Ok K T F1 H1 σ ε1 → Ext F H σ ε F1 H1 σ ε1 → Ext F0 H0 σ0 ε0 F1 H1 σ ε1 → RpR K T F1 H1 σ ε1 r v → (∀ a ∈ newA r v, H a = none) → Ps K T W P F0 H0 σ0 ε0 (g r ε1) S → Q v H1) : tD K T W f σ H Q := by
  refine ⟨F, ε, k, ?_⟩
  cases e : f ε with
  | bad => rw [e] at p; exact p
  | ok r ε1 =>
    rw [e] at p
    exact fun F1 H1 k1 x1 v hr hn => h v F1 H1 r ε1 k1 x1 (x0.trans x1) hr hn p
  | exn c ε1 =>
    rw [e] at p
    exact fun F1 H1 k1 x1 => p F1 H1 σ k1 (x0.trans x1) hP
theorem tDT_useS {α : Type} {K : PySem.W.Frag} {P : List Nat} {ft : En → O Bool} {g : Bool → En → O α} {F0 H0 F H : Hp} {σ0 σ : L2.St} {ε0 ε : En} {S : α → En → Hp → Hp → L2.St → Prop} {Q : Bool → Hp → Prop} (k : Ok K T F H σ ε) (x0 : Ext F0 H0 σ0 ε0 F H σ ε) (hP : ∀ i ∈ P, σ[i]? = σ0[i]?) (p : Ps K T W P F0 H0 σ0 ε0 ((ft ε).bind g) S)
    (h : ∀ b F1 H1 ε1, Ok K T F1 H1 σ ε1 → Ext F H σ ε F1 H1 σ ε1 → Ext F0 H0 σ0 ε0 F1 H1 σ ε1 → Ps K T W P F0 H0 σ0 ε0 (g b ε1) S → Q b H1) : tDT K T W ft σ H Q := by
  refine ⟨F, ε, k, ?_⟩
  cases e : ft ε with
  | bad => rw [e] at p; exact p
  | ok b ε1 =>
    rw [e] at p
    exact fun F1 H1 k1 x1 => h b F1 H1 ε1 k1 x1 (x0.trans x1) p
  | exn c ε1 =>
    rw [e] at p
    exact fun F1 H1 k1 x1 => p F1 H1 σ k1 (x0.trans x1) hP
theorem tDA_useS {α : Type} {K : PySem.W.Frag} {P : List Nat} {g : List R → En → O α} {F0 H0 F H : Hp} {σ0 σ : L2.St} {ε0 ε : En} {S : α → En → Hp → Hp → L2.St → Prop} {Q : List V → Hp → Prop} (k : Ok K T F H σ ε) (x0 : Ext F0 H0 σ0 ε0 F H σ ε) (hP : ∀ i ∈ P, σ[i]? = σ0[i]?) (p : Ps K T W P F0 H0 σ0 ε0 ((fs ε).bind g) S)
    (h : ∀ vs F1 H1 rs ε1, Ok K T F1 H1 σ ε1 → Ext F H σ ε F1 H1 σ ε1 → Ext F0 H0 σ0 ε0 F1 H1 σ ε1 → RpRs K T F1 H1 σ ε1 rs vs → (∀ a ∈ newAs rs vs, H a = none) → (newAs rs vs).Nodup → Ps K T W P F0 H0 σ0 ε0 (g rs ε1) S → Q vs H1) : tDA K T W fs σ H Q := by
  refine ⟨F, ε, k, ?_⟩
  cases e : fs ε with
  | bad => rw [e] at p; exact p
  | ok r ε1 =>
    rw [e] at p
    exact fun F1 H1 k1 x1 v hr hn nd => h v F1 H1 r ε1 k1 x1 (x0.trans x1) hr hn nd p
  | exn c ε1 =>
    rw [e] at p
    exact fun F1 H1 k1 x1 => p F1 H1 σ k1 (x0.trans x1) hP

variable {P : List Nat} {st : Stmt} {sts : List Stmt} {g g1 g2 : En → O Fl}
def dSkip : En → O Fl := fun ε => .ok .nx ε
def vSeq (g2 : En → O Fl) (fl : Fl) (ε : En) : O Fl :=
  match fl with
  | .nx => g2 ε
  | _ => .ok fl ε
def dSeq (g1 g2 : En → O Fl) : En → O Fl := fun ε => (g1 ε).bind (vSeq g2)
theorem dss_nil : DSs X T W P [] dSkip := by
  refine PSs.imp pss_nil fun D σ H q => ?_
  obtain ⟨F, ε, k, p⟩ := q
  exact p F H σ k Ext.refl fun _ _ => rfl
theorem ds_pass : DS X T W P (.Pass pos) dSkip := by
  refine PS.imp ps_pass fun D σ H q => ?_
  obtain ⟨F, ε, k, p⟩ := q
  exact p F H σ k Ext.refl fun _ _ => rfl
theorem ds_break : DS X T W P (.Break pos) (fun ε => .ok .bk ε) := by
  refine PS.imp ps_break fun D σ H q => ?_
  obtain ⟨F, ε, k, p⟩ := q
  exact p F H σ k Ext.refl fun _ _ => rfl
theorem ds_cont : DS X T W P (.Continue pos) (fun ε => .ok .ct ε) := by
  refine PS.imp ps_continue fun D σ H q => ?_
  obtain ⟨F, ε, k, p⟩ := q
  exact p F H σ k Ext.refl fun _ _ => rfl
theorem dss_cons (h1 : DS X T W P st g1) (h2 : DSs X T W P sts g2) : DSs X T W P (st :: sts) (dSeq g1 g2) := by
  refine PSs.imp (pss_cons h1 h2) fun D σ H q => ?_
  obtain ⟨F, ε, k, p⟩ := q
  refine ⟨F, ε, k, ?_⟩
  unfold dSeq at p
  cases e : g1 ε with
  | bad => rw [e] at p; exact p
  | ok fl ε1 =>
    rw [e] at p
    intro F1 H1 σ1 k1 x1 hP
    cases fl with
    | nx => exact ⟨F1, ε1, k1, (Ps.rebase p x1 hP).mono fun a ε' F' H' σ' _ _ _ s => s.imp (fun a ha => x1.ht a ha) (fun _ z => z) (fun _ z => z) (fun _ z => z) (fun _ z => z)⟩
    | bk => exact p F1 H1 σ1 k1 x1 hP
    | ct => exact p F1 H1 σ1 k1 x1 hP
    | rt r => exact p F1 H1 σ1 k1 x1 hP
  | exn c ε1 => rw [e] at p; exact p
theorem dss_one (h1 : DS X T W P st g1) : DSs X T W P [st] g1 := pss_one h1
/-- if -/
def dIf (ft : En → O Bool) (g1 g2 : En → O Fl) : En → O Fl := fun ε => (ft ε).bind fun b ε1 => if b = true then g1 ε1 else g2 ε1
theorem ds_if {ft : En → O Bool} {sa sb : List Stmt} (hc : DT X T W c ft) (ha : DSs X T W P sa g1) (hb : DSs X T W P sb g2) : DS X T W P (.If c sa sb pos) (dIf ft g1 g2) := by
  refine PS.imp (ps_if hc ha hb) fun D σ H q => ?_
  obtain ⟨F, ε, k, p⟩ := q
  refine tDT_useS (g := fun b ε1 => if b = true then g1 ε1 else g2 ε1) k Ext.refl (fun _ _ => rfl) p fun b F1 H1 ε1 k1 x1 _ p1 => ?_
  have p2 := (Ps.rebase p1 x1 fun _ _ => rfl).mono fun a ε' F' H' σ' _ _ _ s => s.imp (H1 := H1) (D1 := D) (fun a ha => x1.ht a ha) (fun _ z => z) (fun _ z => z) (fun _ z => z) (fun _ z => z)
  cases b with
  | true => exact ⟨F1, ε1, k1, p2⟩
  | false => exact ⟨F1, ε1, k1, p2⟩
/-- return -/
def dRet (f : En → O R) : En → O Fl := fun ε => (f ε).bind fun r ε1 => .ok (.rt r) ε1
theorem ds_ret (he : DE X T W e f) : DS X T W P (.Return (some e) pos) (dRet f) := by
  refine PS.imp (ps_ret he) fun D σ H q => ?_
  obtain ⟨F, ε, k, p⟩ := q
  refine tD_useS (g := fun r ε1 => O.ok (Fl.rt r) ε1) (S := SF X.K T H D) k Ext.refl (fun _ _ => rfl) p fun v F1 H1 r ε1 k1 x1 _ q1 n1 p1 => ?_
  exact p1 F1 H1 σ k1 x1 (fun _ _ => rfl) v q1 n1
theorem ds_retN : DS X T W P (.Return none pos) (fun ε => .ok (.rt (.fz .non)) ε) := by
  refine PS.imp ps_retN fun D σ H q => ?_
  obtain ⟨F, ε, k, p⟩ := q
  exact p F H σ k Ext.refl (fun _ _ => rfl) .non (show Rp X.K T F .non .non from rp_non.mpr rfl) (by simp [newA])
/-- an expression whose value is dropped -/
def dDrop (f : En → O R) : En → O Fl := fun ε => (f ε).bind fun _ ε1 => .ok .nx ε1
theorem ds_expr (he : DE X T W e f) (hs : swapsWith e none pos.line X.env = pure false := by rfl) : DS X T W P (.Expr e pos) (dDrop f) := by
  refine PS.imp (ps_expr he hs) fun D σ H q => ?_
  obtain ⟨F, ε, k, p⟩ := q
  refine tD_useS (g := fun r ε1 => O.ok Fl.nx ε1) (S := SF X.K T H D) k Ext.refl (fun _ _ => rfl) p fun v F1 H1 r ε1 k1 x1 _ q1 n1 p1 => ?_
  exact p1 F1 H1 σ k1 x1 (fun _ _ => rfl)
end
end DL

/-! DL4: stores, targets, loops, comprehensions -/
namespace DL
open PySem PySem.Spec PyProof.Rows L2

section
variable {K : PySem.W.Frag} {T : Tab} {W : WX} {F0 H0 F H F' H' : Hp} {σ0 σ : L2.St} {ε0 ε ε' : En} {i : Nat} {d : D} {v : V}
theorem own_setF {a : Addr} (h : OwnAt (σ.set i (some v)) (ε.set i (.fz d)) a) : OwnAt σ ε a := by
  obtain ⟨j, d', e, s⟩ := h
  by_cases hj : i = j
  · subst hj
    by_cases hl : i < ε.length
    · rw [List.getElem?_set_self hl] at e; cases e
    · rw [List.getElem?_eq_none (by rw [List.length_set]; omega)] at e; cases e
  · rw [List.getElem?_set_ne hj] at e s
    exact ⟨j, d', e, s⟩
theorem ok_setF (k : Ok K T F H σ ε) (r : Rp K T F d v) : Ok K T F H (σ.set i (some v)) (ε.set i (.fz d)) where
  sub := k.sub
  len := by rw [List.length_set, List.length_set]; exact k.len
  fz := fun j d' e => by
    by_cases hj : i = j
    · subst hj
      by_cases hl : i < ε.length
      · rw [List.getElem?_set_self hl] at e
        cases e
        exact ⟨v, by rw [List.getElem?_set_self (by rw [k.len]; exact hl)], r⟩
      · rw [List.getElem?_eq_none (by rw [List.length_set]; omega)] at e; cases e
    · rw [List.getElem?_set_ne hj] at e
      rw [List.getElem?_set_ne hj]
      exact k.fz j d' e
  own := fun j d' e => by
    by_cases hj : i = j
    · subst hj
      by_cases hl : i < ε.length
      · rw [List.getElem?_set_self hl] at e; cases e
      · rw [List.getElem?_eq_none (by rw [List.length_set]; omega)] at e; cases e
    · rw [List.getElem?_set_ne hj] at e
      rw [List.getElem?_set_ne hj]
      exact k.own j d' e
  sep := fun j1 j2 d1 d2 a e1 e2 s1 s2 => by
    have get : ∀ {j : Nat} {d1 : D}, (ε.set i (.fz d))[j]? = some (.own d1) → i ≠ j ∧ ε[j]? = some (.own d1) := fun {j d1} ej => by
      by_cases hj : i = j
      · subst hj
        by_cases hl : i < ε.length
        · rw [List.getElem?_set_self hl] at ej; cases ej
        · rw [List.getElem?_eq_none (by rw [List.length_set]; omega)] at ej; cases ej
      · rw [List.getElem?_set_ne hj] at ej
        exact ⟨hj, ej⟩
    obtain ⟨n1, f1⟩ := get e1
    obtain ⟨n2, f2⟩ := get e2
    rw [List.getElem?_set_ne n1] at s1
    rw [List.getElem?_set_ne n2] at s2
    exact k.sep j1 j2 d1 d2 a f1 f2 s1 s2
theorem Ext.setF (x : Ext F0 H0 σ0 ε0 F H σ ε) : Ext F0 H0 σ0 ε0 F H (σ.set i (some v)) (ε.set i (.fz d)) :=
  ⟨x.fs, x.hk, x.ht, x.fn, fun a h => x.on a (own_setF h)⟩
theorem own_setN {a b : Addr} (h : OwnAt (σ.set i (some (.ref b))) (ε.set i (.own d)) a) : OwnAt σ ε a ∨ a = b := by
  obtain ⟨j, d', e, s⟩ := h
  by_cases hj : i = j
  · subst hj
    by_cases hl : i < σ.length
    · rw [List.getElem?_set_self hl] at s
      cases s
      exact .inr rfl
    · rw [List.getElem?_eq_none (by rw [List.length_set]; omega)] at s; cases s
  · rw [List.getElem?_set_ne hj] at e s
    exact .inl ⟨j, d', e, s⟩
theorem ok_setN {a : Addr} {o : HO} (k : Ok K T F H σ ε) (f : F a = none) (g : H a = some o) (r : RpO K T F d o) (n : ¬ OwnAt σ ε a) : Ok K T F H (σ.set i (some (.ref a))) (ε.set i (.own d)) where
  sub := k.sub
  len := by rw [List.length_set, List.length_set]; exact k.len
  fz := fun j d' e => by
    by_cases hj : i = j
    · subst hj
      by_cases hl : i < ε.length
      · rw [List.getElem?_set_self hl] at e; cases e
      · rw [List.getElem?_eq_none (by rw [List.length_set]; omega)] at e; cases e
    · rw [List.getElem?_set_ne hj] at e
      rw [List.getElem?_set_ne hj]
      exact k.fz j d' e
  own := fun j d' e => by
    by_cases hj : i = j
    · subst hj
      by_cases hl : i < ε.length
      · rw [List.getElem?_set_self hl] at e
        cases e
        exact ⟨a, o, by rw [List.getElem?_set_self (by rw [k.len]; exact hl)], f, g, r⟩
      · rw [List.getElem?_eq_none (by rw [List.length_set]; omega)] at e; cases e
    · rw [List.getElem?_set_ne hj] at e
      rw [List.getElem?_set_ne hj]
      exact k.own j d' e
  sep := fun j1 j2 d1 d2 b e1 e2 s1 s2 => by
    by_cases h1 : i = j1
    · by_cases h2 : i = j2
      · exact h1.symm.trans h2
      · subst h1
        rw [List.getElem?_set_ne h2] at e2 s2
        by_cases hl : i < σ.length
        · rw [List.getElem?_set_self hl] at s1
          cases s1
          exact absurd ⟨j2, d2, e2, s2⟩ n
        · rw [List.getElem?_eq_none (by rw [List.length_set]; omega)] at s1; cases s1
    · rw [List.getElem?_set_ne h1] at e1 s1
      by_cases h2 : i = j2
      · subst h2
        by_cases hl : i < σ.length
        · rw [List.getElem?_set_self hl] at s2
          cases s2
          exact absurd ⟨j1, d1, e1, s1⟩ n
        · rw [List.getElem?_eq_none (by rw [List.length_set]; omega)] at s2; cases s2
      · rw [List.getElem?_set_ne h2] at e2 s2
        exact k.sep j1 j2 d1 d2 b e1 e2 s1 s2
theorem Ext.setN {a : Addr} (x : Ext F0 H0 σ0 ε0 F H σ ε) (h0 : H0 a = none) : Ext F0 H0 σ0 ε0 F H (σ.set i (some (.ref a))) (ε.set i (.own d)) :=
  ⟨x.fs, x.hk, x.ht, x.fn, fun b h => (own_setN h).elim (fun z => x.on b z) fun z => .inr (z ▸ h0)⟩
/-- a result is stored at slot i -/
def vSto (i : Nat) (ε : En) : R → Option En
  | .fz d => some (ε.set i (.fz d))
  | .new d => some (ε.set i (.own d))
  | .at j => match frz ε (.at j) with
    | some (d, ε1) => some (ε1.set i (.fz d))
    | none => none
theorem sto_ok {r : R} (x : Ext F0 H0 σ0 ε0 F H σ ε) (k : Ok K T F H σ ε) (h : RpR K T F H σ ε r v) (hn : ∀ a ∈ newA r v, H0 a = none) (e : vSto i ε r = some ε') :
    ∃ F', Ok K T F' H (σ.set i (some v)) ε' ∧ Ext F0 H0 σ0 ε0 F' H (σ.set i (some v)) ε' ∧ Same F F' := by
  cases r with
  | fz d => cases e; exact ⟨F, ok_setF k h, x.setF, Same.refl _⟩
  | new d =>
    cases e
    obtain ⟨a, o, rfl, f, g, q, n⟩ := h
    exact ⟨F, ok_setN k f g q n, x.setN (hn a (by simp [newA])), Same.refl _⟩
  | «at» j =>
    have e : (match frz ε (.at j) with | some (d, ε1) => some (ε1.set i (.fz d)) | none => none) = some ε' := e
    cases e1 : frz ε (.at j) with
    | none => rw [e1] at e; cases e
    | some p =>
      obtain ⟨d, ε1⟩ := p
      rw [e1] at e
      cases e
      obtain ⟨F1, k1, x1, r1, s1, _, _⟩ := frz_ok x k h hn e1
      exact ⟨F1, ok_setF k1 r1, x1.setF, s1⟩

/-- the heap grows by things that never change -/
theorem ok_grow (k : Ok K T F H σ ε) (s1 : Same F F') (s2 : Same F' H') (s3 : Same H H') (fr : ∀ a, F' a ≠ none → F a ≠ none ∨ H a = none) : Ok K T F' H' σ ε where
  sub := s2
  len := k.len
  fz := fun i d e => by
    obtain ⟨v, e1, r⟩ := k.fz i d e
    exact ⟨v, e1, Rp.mono s1 _ _ r⟩
  own := fun i d e => by
    obtain ⟨a, o, e1, f, g, r⟩ := k.own i d e
    refine ⟨a, o, e1, ?_, s3 _ _ g, r.mono s1⟩
    cases h : F' a with
    | none => rfl
    | some u =>
      rcases fr a (by rw [h]; simp) with z | z
      · exact absurd f z
      · rw [g] at z; cases z
  sep := k.sep
theorem Ext.grow (x : Ext F0 H0 σ0 ε0 F H σ ε) (s1 : Same F F') (s3 : Same H H') (fr : ∀ a, F' a ≠ none → F a ≠ none ∨ H a = none) : Ext F0 H0 σ0 ε0 F' H' σ ε where
  fs := x.fs.trans s1
  hk := fun a o e n => s3 _ _ (x.hk a o e n)
  ht := fun a e => x.ht a (s3.free e)
  fn := fun a e => (fr a e).elim (x.fn a) fun z => .inr (.inl (x.ht a z))
  on := x.on
end

section
variable {X : Cx} {T : Tab} {W : WX} {e a b c tg iter : Expr} {es : List Expr} {f fa fb fc : En → O R} {fs : En → O (List R)} {pos : Pos} {P tgs tgs1 tgs2 : List Nat} {g : En → O Fl}

/-- name = e -/
def vSet (i : Nat) (ε : En) (r : R) : O Fl :=
  match vSto i ε r with
  | some ε' => .ok .nx ε'
  | none => .bad
def dSet (i : Nat) (f : En → O R) : En → O Fl := fun ε => (f ε).bind fun r ε1 => vSet i ε1 r
theorem p_set {σ : L2.St} {i : Nat} {v : V} (hi : i ∉ P) : ∀ j ∈ P, (σ.set i (some v))[j]? = σ[j]? := fun j hj => by
  rw [List.getElem?_set_ne (fun e => hi (by rw [e]; exact hj))]
theorem set_use {i : Nat} {te : TE} {D : Ends} {σ : L2.St} {H : Hp} (hi : i ∉ P) (q : tDS X.K T W P (dSet i f) D σ H) : tAsg (tD X.K T W f) (gName i) D σ H := by
  obtain ⟨F, ε, k, p⟩ := q
  refine tD_useS (g := fun r ε1 => vSet i ε1 r) (S := SF X.K T H D) k Ext.refl (fun _ _ => rfl) p fun v F1 H1 r ε1 k1 x1 _ q1 n1 p1 => ?_
  unfold vSet at p1
  cases e1 : vSto i ε1 r with
  | none => rw [e1] at p1; exact p1.elim
  | some ε2 =>
    rw [e1] at p1
    obtain ⟨F2, k2, x2, s2⟩ := sto_ok x1 k1 q1 n1 e1
    exact p1 F2 H1 _ k2 x2 (p_set hi)
theorem ds_set {i : Nat} {x : Str} {pos' : Pos} (hN : X.N.Nodup) (he : DE X T W e f) (hi : X.N[i]? = some x := by rfl) (hx : Loc X.env.scope x := by first | exact Or.inl rfl | exact Or.inr rfl) (hP : i ∉ P := by decide) (hs : swapsWith e (some (.Name x pos')) pos.line X.env = pure false := by rfl)
    (hf : X.fn x = true ∨ X.env.scope.names.lookup x = some .local := by first | exact .inl rfl | exact .inr rfl) : DS X T W P (.Assign [.Name x pos'] e pos) (dSet i f) :=
  PS.imp (ps_set hN hi hx he hs hf) fun D σ H q => set_use (te := tD X.K T W f) hP q

/-! ### targets -/
/-- a datum is given to a target: the slots then; tgs: the slots that are stored -/
def tDG (K : PySem.W.Frag) (T : Tab) (tgs : List Nat) (g : D → En → Option En) : TG := fun v σ H Q => ∃ F ε d ε', Ok K T F H σ ε ∧ Rp K T F d v ∧ g d ε = some ε' ∧
  ∀ F' H' σ', Ok K T F' H' σ' ε' → Ext F H σ ε F' H' σ' ε' → (∀ j, j ∉ tgs → σ'[j]? = σ[j]?) → σ'.length = σ.length → Q σ' H'
def tDGs (K : PySem.W.Frag) (T : Tab) (tgs : List Nat) (g : List D → En → Option En) : TGs := fun vs σ H Q => ∃ F ε ds ε', Ok K T F H σ ε ∧ Rps K T F ds vs ∧ g ds ε = some ε' ∧
  ∀ F' H' σ', Ok K T F' H' σ' ε' → Ext F H σ ε F' H' σ' ε' → (∀ j, j ∉ tgs → σ'[j]? = σ[j]?) → σ'.length = σ.length → Q σ' H'
abbrev DG (X : Cx) (T : Tab) (tgs : List Nat) (tg : Expr) (g : D → En → Option En) : Prop := PG X tg (tDG X.K T tgs g)
abbrev DGs (X : Cx) (T : Tab) (tgs : List Nat) (tg : List Expr) (g : List D → En → Option En) : Prop := PGs X tg (tDGs X.K T tgs g)
theorem PG.imp {t t' : TG} (h : PG X tg t) (w : ∀ v σ H Q, t' v σ H Q → t v σ H Q) : PG X tg t' := ⟨fun pins s σ H v u Q I r q => h.run pins s σ H v u Q I r (w v σ H Q q)⟩
theorem PGs.imp {t t' : TGs} (h : PGs X es t) (w : ∀ v σ H Q, t' v σ H Q → t v σ H Q) : PGs X es t' := ⟨fun pins s σ H v u Q I r q => h.run pins s σ H v u Q I r (w v σ H Q q)⟩
def gN (i : Nat) : D → En → Option En := fun d ε => some (ε.set i (.fz d))
theorem dg_name {i : Nat} {x : Str} (hN : X.N.Nodup) (hi : X.N[i]? = some x := by rfl) (hx : Loc X.env.scope x := by first | exact Or.inl rfl | exact Or.inr rfl) (hf : X.fn x = true ∨ X.env.scope.names.lookup x = some .local := by first | exact .inl rfl | exact .inr rfl) : DG X T [i] (.Name x pos) (gN i) := by
  refine PG.imp (pg_name hN hi hx hf) fun v σ H Q q => ?_
  obtain ⟨F, ε, d, ε', k, r, e, q⟩ := q
  cases e
  refine q F H _ (ok_setF k r) Ext.refl.setF (fun j hj => ?_) (by rw [List.length_set])
  rw [List.getElem?_set_ne (fun e => hj (by simp [e]))]
def gNil : List D → En → Option En
  | [], ε => some ε
  | _, _ => none
def gCons (g : D → En → Option En) (gs : List D → En → Option En) : List D → En → Option En
  | d :: ds, ε => match g d ε with
    | some ε1 => gs ds ε1
    | none => none
  | _, _ => none
theorem dgs_nil : DGs X T [] [] gNil := by
  refine PGs.imp pgs_nil fun vs σ H Q q => ?_
  obtain ⟨F, ε, ds, ε', k, r, e, q⟩ := q
  cases ds with
  | nil => cases e; exact ⟨rps_nil.mp r, q F H σ k Ext.refl (fun _ _ => rfl) rfl⟩
  | cons d ds => cases e
theorem dgs_cons {g1 : D → En → Option En} {g2 : List D → En → Option En} (h1 : DG X T tgs1 e g1) (h2 : DGs X T tgs2 es g2) (hs : (assignEach (e :: es) X.env).map (·.2) = assign e X.env :: (assignEach es X.env).map (·.2) := by rfl) : DGs X T (tgs1 ++ tgs2) (e :: es) (gCons g1 g2) := by
  refine PGs.imp (pgs_cons h1 h2 hs) fun vs σ H Q q => ?_
  obtain ⟨F, ε, ds, ε', k, r, e, q⟩ := q
  cases ds with
  | nil => cases e
  | cons d ds =>
    obtain ⟨v, w, rfl, r1, r2⟩ := rps_cons.mp r
    have e : (match g1 d ε with | some ε1 => g2 ds ε1 | none => none) = some ε' := e
    cases e1 : g1 d ε with
    | none => rw [e1] at e; cases e
    | some ε1 =>
      rw [e1] at e
      refine ⟨v, w, rfl, F, ε, d, ε1, k, r1, e1, fun F1 H1 σ1 k1 x1 hj1 hl1 => ?_⟩
      refine ⟨F1, ε1, ds, ε', k1, Rps.mono x1.fs _ _ r2, e, fun F2 H2 σ2 k2 x2 hj2 hl2 => ?_⟩
      exact q F2 H2 σ2 k2 (x1.trans x2) (fun j hj => (hj2 j fun z => hj (List.mem_append_right _ z)).trans (hj1 j fun z => hj (List.mem_append_left _ z))) (hl2.trans hl1)
def gTupD (n : Nat) (gs : List D → En → Option En) : D → En → Option En
  | .tup ds, ε => if ds.length = n then gs ds ε else none
  | _, _ => none
theorem dg_tup {k n : Nat} {gs : List D → En → Option En} (hc : X.calm = true) (h : DGs X T tgs es gs) (hn : (assignEach es X.env).length = n := by rfl) (hst : (assignEach es X.env).findIdx? (·.1) = none := by rfl) : DG X T tgs (.Tuple es k pos) (gTupD n gs) := by
  refine PG.imp (pg_tup hc h hn hst) fun v σ H Q q => ?_
  obtain ⟨F, ε, d, ε', k, r, e, q⟩ := q
  cases d with
  | tup ds =>
    have e : (if ds.length = n then gs ds ε else none) = some ε' := e
    by_cases hl : ds.length = n
    · rw [if_pos hl] at e
      obtain ⟨a, vs, rfl, hq, hr⟩ := rp_tupT r
      exact ⟨a, vs, rfl, sqT_mono k.sub hq, by rw [hr.length]; exact hl, F, ε, ds, ε', k, hr, e, q⟩
    · rw [if_neg hl] at e; cases e
  | _ => cases e
/-- target = e -/
def vAsg (g : D → En → Option En) (ε : En) (r : R) : O Fl :=
  match frz ε r with
  | some (d, ε1) => match g d ε1 with
    | some ε2 => .ok .nx ε2
    | none => .bad
  | none => .bad
def dAsg (g : D → En → Option En) (f : En → O R) : En → O Fl := fun ε => (f ε).bind fun r ε1 => vAsg g ε1 r
theorem asg_use {gg : D → En → Option En} {D : Ends} {σ : L2.St} {H : Hp} (hP : ∀ j ∈ P, j ∉ tgs) (q : tDS X.K T W P (dAsg gg f) D σ H) : tAsg (tD X.K T W f) (tDG X.K T tgs gg) D σ H := by
  obtain ⟨F, ε, k, p⟩ := q
  refine tD_useS (g := fun r ε1 => vAsg gg ε1 r) (S := SF X.K T H D) k Ext.refl (fun _ _ => rfl) p fun v F1 H1 r ε1 k1 x1 _ q1 n1 p1 => ?_
  unfold vAsg at p1
  cases e1 : frz ε1 r with
  | none => rw [e1] at p1; exact p1.elim
  | some z =>
    obtain ⟨d, ε2⟩ := z
    simp only [e1] at p1
    cases e2 : gg d ε2 with
    | none => rw [e2] at p1; exact p1.elim
    | some ε3 =>
      rw [e2] at p1
      obtain ⟨F2, k2, x2, r2, _, _, _⟩ := frz_ok x1 k1 q1 n1 e1
      exact ⟨F2, ε2, d, ε3, k2, r2, e2, fun F3 H3 σ3 k3 x3 hj _ => p1 F3 H3 σ3 k3 (x2.trans x3) fun j hj' => hj j (hP j hj')⟩
theorem ds_asg {gg : D → En → Option En} (he : DE X T W e f) (hg : DG X T tgs tg gg) (hP : ∀ j ∈ P, j ∉ tgs := by decide) (hs : swapsWithSole [tg] e pos.line X.env = pure false := by rfl) (hw : swappedStores [tg] e X.env = pure none := by rfl)
    (h1 : (assignEach [tg] X.env).map (·.2) = [assign tg X.env] := by rfl) : DS X T W P (.Assign [tg] e pos) (dAsg gg f) :=
  PS.imp (ps_asg he hg hs hw h1) fun D σ H q => asg_use hP q

/-! ### what is walked -/
/-- J gives ds, one by one, whatever else changes -/
def YJ (K : PySem.W.Frag) (T : Tab) (F : Hp) (J : It) (ds : List D) : Prop := ∀ F1 H1, Same F F1 → Same F1 H1 →
  (∀ i, i < ds.length → J.go i H1 ∧ ∀ x H2, J.yld i H1 x H2 → ∃ F2 d, Same F1 F2 ∧ Same F2 H2 ∧ Same H1 H2 ∧ (∀ a, F2 a ≠ none → F1 a ≠ none ∨ H1 a = none) ∧ ds[i]? = some d ∧ Rp K T F2 d x) ∧ J.stop ds.length H1
def tDI (K : PySem.W.Frag) (T : Tab) (W : WX) (f : En → O (List D)) : TI := fun σ H R => ∃ F ε, Ok K T F H σ ε ∧ Po K T W F H σ ε (f ε) (fun ds _ F' H' => ∀ J, YJ K T F' J ds → R J H')
abbrev DI (X : Cx) (T : Tab) (W : WX) (tg iter : Expr) (f : En → O (List D)) : Prop := PI X tg iter (tDI X.K T W f)
theorem PI.imp {t t' : TI} (h : PI X tg iter t) (w : ∀ σ H R, t' σ H R → t σ H R) : PI X tg iter t' := ⟨fun pins s σ H R I q => h.run pins s σ H R I (w σ H R q)⟩

/-! ### for -/
def vTurn (k : En → O Fl) (fl : Fl) (ε : En) : O Fl :=
  match fl with
  | .nx => k ε
  | .ct => k ε
  | .bk => .ok .nx ε
  | .rt r => .ok (.rt r) ε
def dLoop (gg : D → En → Option En) (b : En → O Fl) : List D → En → O Fl
  | [], ε => .ok .nx ε
  | d :: ds, ε => match gg d ε with
    | some ε1 => (b ε1).bind (vTurn (dLoop gg b ds))
    | none => .bad
def dFor (fi : En → O (List D)) (gg : D → En → Option En) (b : En → O Fl) : En → O Fl := fun ε => (fi ε).bind fun ds ε1 => dLoop gg b ds ε1
theorem ds_for {body : List Stmt} {fi : En → O (List D)} {gg : D → En → Option En} (hp : PassesOwn (model X.prog X.w) X.A X.env X.xe) (hc : X.calm = true) (hi : DI X T W tg iter fi) (hg : DG X T tgs tg gg) (hb : DSs X T W P body g) (hP : ∀ j ∈ P, j ∉ tgs := by decide)
    (hs : ∀ x, foldedSetIterable iter X.env x = pure x := by intro _; rfl) : DS X T W P (.For tg iter body [] pos) (dFor fi gg g) := by
  refine PS.imp (ps_for hp hc hi hg hb hs) fun D σ H q => ?_
  obtain ⟨F, ε, k, p⟩ := q
  refine ⟨F, ε, k, ?_⟩
  unfold dFor at p
  cases e : fi ε with
  | bad => rw [e] at p; exact p
  | exn c ε1 =>
    rw [e] at p
    exact fun F1 H1 k1 x1 => p F1 H1 σ k1 x1 fun _ _ => rfl
  | ok ds ε1 =>
    rw [e] at p
    have p : Ps X.K T W P F H σ ε (dLoop gg g ds ε1) (SF X.K T H D) := p
    intro F1 H1 k1 x1 J yj
    refine ⟨fun i m σ2 H2 => m = ds.length - i ∧ i ≤ ds.length ∧ ∃ F2 ε2, Ok X.K T F2 H2 σ2 ε2 ∧ Ext F H σ ε F2 H2 σ2 ε2 ∧ (∀ j ∈ P, σ2[j]? = σ[j]?) ∧ Same F1 F2 ∧ Ps X.K T W P F H σ ε (dLoop gg g (ds.drop i) ε2) (SF X.K T H D), ⟨ds.length, by simp, Nat.zero_le _, F1, ε1, k1, x1, fun _ _ => rfl, Same.refl _, p⟩, ?_⟩
    rintro i m σ2 H2 ⟨rfl, hi', F2, ε2, k2, x2, hP2, s2, p2⟩
    obtain ⟨y1, y2⟩ := yj F2 H2 s2 k2.sub
    by_cases hlt : i < ds.length
    · right
      obtain ⟨go, y1⟩ := y1 i hlt
      refine ⟨go, fun σ3 H3 => ∃ F3 ε3, Ok X.K T F3 H3 σ3 ε3 ∧ Ext F H σ ε F3 H3 σ3 ε3 ∧ (∀ j ∈ P, σ3[j]? = σ[j]?) ∧ Same F1 F3 ∧ Ps X.K T W P F H σ ε (dLoop gg g (ds.drop (i + 1)) ε3) (SF X.K T H D), fun σ' H' ⟨F3, ε3, z⟩ => ⟨ds.length - (i + 1), by omega, rfl, hlt, F3, ε3, z⟩, fun x H3 hy => ?_⟩
      obtain ⟨F3, d, s3, s4, s5, fr, ed, rd⟩ := y1 x H3 hy
      have hdrop : ds.drop i = d :: ds.drop (i + 1) := by
        rw [List.drop_eq_getElem_cons hlt]
        congr 1
        rw [List.getElem?_eq_getElem hlt] at ed
        exact Option.some.inj ed
      rw [hdrop] at p2
      have p2 : Ps X.K T W P F H σ ε (match gg d ε2 with | some ε1 => (g ε1).bind (vTurn (dLoop gg g (ds.drop (i + 1)))) | none => .bad) (SF X.K T H D) := p2
      cases e3 : gg d ε2 with
      | none => rw [e3] at p2; exact p2.elim
      | some ε3 =>
        rw [e3] at p2
        have p2 : Ps X.K T W P F H σ ε ((g ε3).bind (vTurn (dLoop gg g (ds.drop (i + 1))))) (SF X.K T H D) := p2
        have k3 := ok_grow k2 s3 s4 s5 fr
        have x3 := x2.grow s3 s5 fr
        refine ⟨F3, ε2, d, ε3, k3, rd, e3, fun F4 H4 σ4 k4 x4 hj _ => ?_⟩
        have x5 := x3.trans x4
        have hP4 : ∀ j ∈ P, σ4[j]? = σ[j]? := fun j hj' => (hj j (hP j hj')).trans (hP2 j hj')
        refine ⟨F4, ε3, k4, ?_⟩
        have s14 : Same F1 F4 := s2.trans (s3.trans x4.fs)
        cases e4 : g ε3 with
        | bad => rw [e4] at p2; exact p2
        | exn c ε4 =>
          rw [e4] at p2
          exact fun F5 H5 σ5 k5 x6 hP5 => p2 F5 H5 σ5 k5 (x5.trans x6) fun j hj => (hP5 j hj).trans (hP4 j hj)
        | ok fl ε4 =>
          rw [e4] at p2
          intro F5 H5 σ5 k5 x6 hP5
          have hP6 : ∀ j ∈ P, σ5[j]? = σ[j]? := fun j hj => (hP5 j hj).trans (hP4 j hj)
          cases fl with
          | nx => exact ⟨F5, ε4, k5, x5.trans x6, hP6, s14.trans x6.fs, p2⟩
          | ct => exact ⟨F5, ε4, k5, x5.trans x6, hP6, s14.trans x6.fs, p2⟩
          | bk => exact p2 F5 H5 σ5 k5 (x5.trans x6) hP6
          | rt r => exact fun v hv hn => p2 F5 H5 σ5 k5 (x5.trans x6) hP6 v hv fun a ha => x5.ht a (hn a ha)
    · left
      have ei : i = ds.length := by omega
      subst ei
      rw [List.drop_length] at p2
      exact ⟨y2, p2 F2 H2 σ2 k2 x2 hP2⟩

/-! ### while, with a number of turns that is enough -/
def dWhile (ft : En → O Bool) (b : En → O Fl) : Nat → En → O Fl
  | 0, _ => .bad
  | n + 1, ε => (ft ε).bind fun c ε1 => if c = true then (b ε1).bind (vTurn (dWhile ft b n)) else .ok .nx ε1
theorem ds_while {body : List Stmt} {ft : En → O Bool} (n : Nat) (hp : PassesOwn (model X.prog X.w) X.A X.env X.xe) (hc : DT X T W c ft) (hb : DSs X T W P body g) : DS X T W P (.While c body [] pos) (dWhile ft g n) := by
  refine PS.imp (ps_while hp hc hb) fun D σ H q => ?_
  obtain ⟨F, ε, k, p⟩ := q
  refine ⟨fun m σ2 H2 => ∃ F2 ε2, Ok X.K T F2 H2 σ2 ε2 ∧ Ext F H σ ε F2 H2 σ2 ε2 ∧ (∀ j ∈ P, σ2[j]? = σ[j]?) ∧ Ps X.K T W P F H σ ε (dWhile ft g m ε2) (SF X.K T H D), ⟨n, F, ε, k, Ext.refl, fun _ _ => rfl, p⟩, ?_⟩
  rintro m σ2 H2 ⟨F2, ε2, k2, x2, hP2, p2⟩
  cases m with
  | zero => exact p2.elim
  | succ m =>
    refine tDT_useS (g := fun c ε1 => if c = true then (g ε1).bind (vTurn (dWhile ft g m)) else .ok .nx ε1) (S := SF X.K T H D) k2 x2 hP2 p2 fun b F3 H3 ε3 k3 x3 y3 p3 => ?_
    cases b with
    | false => exact p3 F3 H3 σ2 k3 y3 hP2
    | true =>
      refine ⟨fun σ3 H3 => ∃ F3 ε3, Ok X.K T F3 H3 σ3 ε3 ∧ Ext F H σ ε F3 H3 σ3 ε3 ∧ (∀ j ∈ P, σ3[j]? = σ[j]?) ∧ Ps X.K T W P F H σ ε (dWhile ft g m ε3) (SF X.K T H D), fun σ' H' z => ⟨m, Nat.lt_succ_self _, z⟩, F3, ε3, k3, ?_⟩
      have p3 : Ps X.K T W P F H σ ε ((g ε3).bind (vTurn (dWhile ft g m))) (SF X.K T H D) := p3
      cases e4 : g ε3 with
      | bad => rw [e4] at p3; exact p3
      | exn c ε4 =>
        rw [e4] at p3
        exact fun F5 H5 σ5 k5 x6 hP5 => p3 F5 H5 σ5 k5 (y3.trans x6) fun j hj => (hP5 j hj).trans (hP2 j hj)
      | ok fl ε4 =>
        rw [e4] at p3
        intro F5 H5 σ5 k5 x6 hP5
        have hP6 : ∀ j ∈ P, σ5[j]? = σ[j]? := fun j hj => (hP5 j hj).trans (hP2 j hj)
        cases fl with
        | nx => exact ⟨F5, ε4, k5, y3.trans x6, hP6, p3⟩
        | ct => exact ⟨F5, ε4, k5, y3.trans x6, hP6, p3⟩
        | bk => exact p3 F5 H5 σ5 k5 (y3.trans x6) hP6
        | rt r => exact fun v hv hn => p3 F5 H5 σ5 k5 (y3.trans x6) hP6 v hv fun a ha => y3.ht a (hn a ha)
end
end DL

/-! DL5: comprehensions -/
namespace DL
open PySem PySem.Spec PyProof.Rows L2

abbrev W0 : WX := fun _ _ _ _ => False
def wipeE (ε : En) : List Nat → En
  | [] => ε
  | v :: vs => (wipeE ε vs).set v .no
theorem wipeE_length (ε : En) : ∀ vs : List Nat, (wipeE ε vs).length = ε.length
  | [] => rfl
  | v :: vs => by unfold wipeE; rw [List.length_set, wipeE_length ε vs]
theorem wipe_out' {σ : L2.St} {j : Nat} : ∀ {vs : List Nat}, j ∉ vs → (wipe σ vs)[j]? = σ[j]?
  | [], _ => rfl
  | v :: vs, h => by
    unfold wipe
    rw [List.getElem?_set_ne (fun e => h (by simp [e])), wipe_out' (fun z => h (List.mem_cons_of_mem _ z))]
theorem wipe_in' {σ : L2.St} {j : Nat} : ∀ {vs : List Nat}, j ∈ vs → j < σ.length → (wipe σ vs)[j]? = some none
  | v :: vs, h, hl => by
    unfold wipe
    by_cases e : v = j
    · subst e; rw [List.getElem?_set_self (by rw [wipe_length]; exact hl)]
    · rw [List.getElem?_set_ne e]
      rcases List.mem_cons.mp h with z | z
      · exact absurd z.symm e
      · exact wipe_in' z hl
theorem wipeE_out {ε : En} {j : Nat} : ∀ {vs : List Nat}, j ∉ vs → (wipeE ε vs)[j]? = ε[j]?
  | [], _ => rfl
  | v :: vs, h => by
    unfold wipeE
    rw [List.getElem?_set_ne (fun e => h (by simp [e])), wipeE_out (fun z => h (List.mem_cons_of_mem _ z))]
theorem wipeE_in {ε : En} {j : Nat} {s : Sl} : ∀ {vs : List Nat}, j ∈ vs → (wipeE ε vs)[j]? = some s → s = .no
  | v :: vs, h, e => by
    unfold wipeE at e
    by_cases ev : v = j
    · subst ev
      by_cases hl : v < (wipeE ε vs).length
      · rw [List.getElem?_set_self hl] at e; cases e; rfl
      · rw [List.getElem?_eq_none (by rw [List.length_set]; omega)] at e; cases e
    · rw [List.getElem?_set_ne ev] at e
      rcases List.mem_cons.mp h with z | z
      · exact absurd z.symm ev
      · exact wipeE_in z e
theorem wipe_eq {σ σ' : L2.St} {vs : List Nat} (hl : σ'.length = σ.length) (h : ∀ j, j ∉ vs → σ'[j]? = (wipe σ vs)[j]?) : wipe σ' vs = wipe σ vs := by
  apply List.ext_getElem?
  intro j
  by_cases hj : j ∈ vs
  · by_cases hlt : j < σ.length
    · rw [wipe_in' hj hlt, wipe_in' hj (by rw [hl]; exact hlt)]
    · rw [List.getElem?_eq_none (by rw [wipe_length, hl]; omega), List.getElem?_eq_none (by rw [wipe_length]; omega)]
  · rw [wipe_out' hj, h j hj]
theorem wipe_wipe {σ : L2.St} {vs : List Nat} : wipe (wipe σ vs) vs = wipe σ vs := wipe_eq (wipe_length σ vs) fun _ _ => rfl

section
variable {K : PySem.W.Frag} {T : Tab} {W : WX} {F0 H0 F H F' H' : Hp} {σ0 σ : L2.St} {ε0 ε ε' : En} {i : Nat} {d : D} {v : V} {vs : List Nat}
theorem own_wipe {a : Addr} (h : OwnAt (wipe σ vs) (wipeE ε vs) a) : OwnAt σ ε a := by
  obtain ⟨j, d, e, s⟩ := h
  by_cases hj : j ∈ vs
  · cases wipeE_in hj e
  · rw [wipeE_out hj] at e
    rw [wipe_out' hj] at s
    exact ⟨j, d, e, s⟩
theorem ok_wipe (k : Ok K T F H σ ε) : Ok K T F H (wipe σ vs) (wipeE ε vs) where
  sub := k.sub
  len := by rw [wipe_length, wipeE_length]; exact k.len
  fz := fun j d e => by
    by_cases hj : j ∈ vs
    · cases wipeE_in hj e
    · rw [wipeE_out hj] at e; rw [wipe_out' hj]; exact k.fz j d e
  own := fun j d e => by
    by_cases hj : j ∈ vs
    · cases wipeE_in hj e
    · rw [wipeE_out hj] at e; rw [wipe_out' hj]; exact k.own j d e
  sep := fun j1 j2 d1 d2 a e1 e2 s1 s2 => by
    by_cases h1 : j1 ∈ vs
    · cases wipeE_in h1 e1
    · by_cases h2 : j2 ∈ vs
      · cases wipeE_in h2 e2
      · rw [wipeE_out h1] at e1; rw [wipe_out' h1] at s1
        rw [wipeE_out h2] at e2; rw [wipe_out' h2] at s2
        exact k.sep j1 j2 d1 d2 a e1 e2 s1 s2
theorem Ext.wipe (x : Ext F0 H0 σ0 ε0 F H σ ε) : Ext F0 H0 σ0 ε0 F H (L2.wipe σ vs) (wipeE ε vs) :=
  ⟨x.fs, x.hk, x.ht, x.fn, fun a h => x.on a (own_wipe h)⟩
/-- the wiped slots, seen from where they were not wiped -/
def Wiped (vs : List Nat) (ε : En) : Prop := ∀ j s, j ∈ vs → ε[j]? = some s → s = .no
theorem wiped_wipeE : Wiped vs (wipeE ε vs) := fun _ _ hj e => wipeE_in hj e
theorem ok_unwipe (k : Ok K T F H (L2.wipe σ vs) ε) (w : Wiped vs ε) : Ok K T F H σ ε where
  sub := k.sub
  len := by rw [← k.len, wipe_length]
  fz := fun j d e => by
    by_cases hj : j ∈ vs
    · cases w j _ hj e
    · have := k.fz j d e; rw [wipe_out' hj] at this; exact this
  own := fun j d e => by
    by_cases hj : j ∈ vs
    · cases w j _ hj e
    · have := k.own j d e; rw [wipe_out' hj] at this; exact this
  sep := fun j1 j2 d1 d2 a e1 e2 s1 s2 => by
    by_cases h1 : j1 ∈ vs
    · cases w j1 _ h1 e1
    · by_cases h2 : j2 ∈ vs
      · cases w j2 _ h2 e2
      · exact k.sep j1 j2 d1 d2 a e1 e2 (by rw [wipe_out' h1]; exact s1) (by rw [wipe_out' h2]; exact s2)
theorem own_unwipe {a : Addr} (w : Wiped vs ε) (h : OwnAt σ ε a) : OwnAt (L2.wipe σ vs) ε a := by
  obtain ⟨j, d, e, s⟩ := h
  by_cases hj : j ∈ vs
  · cases w j _ hj e
  · exact ⟨j, d, e, by rw [wipe_out' hj]; exact s⟩
theorem Ext.unwipe (x : Ext F0 H0 σ0 ε0 F H (L2.wipe σ vs) ε) (w : Wiped vs ε) : Ext F0 H0 σ0 ε0 F H σ ε :=
  ⟨x.fs, x.hk, x.ht, x.fn, fun a h => x.on a (own_unwipe w h)⟩
/-- an object that no slot owns and nobody froze is written -/
theorem ok_upd {p : Addr} {o : HO} (k : Ok K T F H σ ε) (f : F p = none) (n : ¬ OwnAt σ ε p) : Ok K T F (upd H p o) σ ε where
  sub := fun b u e => by rw [upd_ne (ne_of_none e f)]; exact k.sub _ _ e
  len := k.len
  fz := k.fz
  own := fun i d e => by
    obtain ⟨a, u, e1, f', g, r⟩ := k.own i d e
    exact ⟨a, u, e1, f', by rw [upd_ne (fun z => n ⟨i, d, e, by rw [← z]; exact e1⟩)]; exact g, r⟩
  sep := k.sep
theorem Ext.upd {p : Addr} {o : HO} (x : Ext F0 H0 σ0 ε0 F H σ ε) (h0 : H0 p = none) : Ext F0 H0 σ0 ε0 F (L2.upd H p o) σ ε where
  fs := x.fs
  hk := fun a u e n => by rw [upd_ne (ne_of_none e h0)]; exact x.hk a u e n
  ht := fun a e => by
    by_cases h : a = p
    · subst h; exact h0
    · rw [upd_ne h] at e; exact x.ht a e
  fn := x.fn
  on := x.on
end

section
variable {X : Cx} {T : Tab} {W : WX} {e a b c tg iter elt : Expr} {ifs : List Expr} {f fa fb fc fe : En → O R} {ft : En → O Bool} {fs : En → O (List R)} {pos : Pos} {P tgs vs : List Nat} {gg : D → En → Option En}

abbrev DTs (X : Cx) (T : Tab) (W : WX) (ifs : List Expr) (f : En → O Bool) : Prop := PTs X ifs (tDT X.K T W f)
theorem PTs.imp {t t' : TT} (h : PTs X ifs t) (w : ∀ σ H Q, t' σ H Q → t σ H Q) : PTs X ifs t' := ⟨fun pins s σ H Q I q => h.run pins s σ H Q I (w σ H Q q)⟩
def dYes : En → O Bool := fun ε => .ok true ε
theorem dts_nil : DTs X T W [] dYes := PTs.imp pts_nil fun σ H Q ⟨F, ε, k, p⟩ => p F H k Ext.refl
theorem dts_one (h : DT X T W c ft) : DTs X T W [c] ft := pts_one h

/-- the turns of a comprehension; acc: the list so far -/
def lcLoop (gg : D → En → Option En) (ft : En → O Bool) (fe : En → O R) (vs : List Nat) : List D → En → List D → O (List D)
  | [], ε, acc => .ok acc ε
  | d :: ds, ε, acc => match gg d ε with
    | some ε1 => match ft ε1 with
      | .ok true ε2 => match fe ε2 with
        | .ok r ε3 => match frz ε3 r with
          | some (y, ε4) => lcLoop gg ft fe vs ds (wipeE ε4 vs) (acc ++ [y])
          | none => .bad
        | _ => .bad
      | .ok false ε2 => lcLoop gg ft fe vs ds (wipeE ε2 vs) acc
      | _ => .bad
    | none => .bad
def vLC (gg : D → En → Option En) (ft : En → O Bool) (fe : En → O R) (vs : List Nat) (ds : List D) (ε : En) : O R :=
  if ds.length ≤ 1000000 then (lcLoop gg ft fe vs ds (wipeE ε vs) []).bind fun acc ε2 => .ok (.new (.lst acc)) ε2 else .bad
def dLC (fi : En → O (List D)) (gg : D → En → Option En) (ft : En → O Bool) (fe : En → O R) (vs : List Nat) : En → O R := fun ε => (fi ε).bind fun ds ε1 => vLC gg ft fe vs ds ε1
theorem lc_use {K : PySem.W.Frag} {fi : En → O (List D)} (htg : ∀ j ∈ tgs, j ∈ vs) {σ : L2.St} {H : Hp} {Q : VK} (q : tD K T W (dLC fi gg ft fe vs) σ H Q) : tLc (tDI K T W fi) (tDG K T tgs gg) (tDT K T W0 ft) (tD K T W0 fe) vs σ H Q := by
  obtain ⟨F, ε, k, p⟩ := q
  refine ⟨F, ε, k, ?_⟩
  unfold dLC at p
  cases e : fi ε with
  | bad => rw [e] at p; exact p
  | exn c ε1 => rw [e] at p; exact p
  | ok ds ε1 =>
    rw [e] at p
    have p : Po K T W F H σ ε (vLC gg ft fe vs ds ε1) (SE K T H σ Q) := p
    intro F1 H1 k1 x1 J yj D hD
    unfold vLC at p
    by_cases hlen : ds.length ≤ 1000000
    · rw [if_pos hlen] at p
      have hD0 : H D = none := x1.ht D hD
      refine ⟨fun i m H2 => m = ds.length - i ∧ i ≤ ds.length ∧ ∃ F2 ε2 acc vacc, Ok K T F2 H2 (wipe σ vs) ε2 ∧ Ext F H σ ε F2 H2 (wipe σ vs) ε2 ∧ Same F1 F2 ∧ Wiped vs ε2 ∧ H2 D = some (.lst vacc) ∧ F2 D = none ∧ ¬ OwnAt (wipe σ vs) ε2 D ∧ Rps K T F2 acc vacc ∧ acc.length ≤ i ∧
        Po K T W F H σ ε ((lcLoop gg ft fe vs (ds.drop i) ε2 acc).bind fun acc ε2 => (O.ok (R.new (DL.D.lst acc)) ε2 : O R)) (SE K T H σ Q), ⟨ds.length, by simp, Nat.zero_le _, F1, wipeE ε1 vs, [], [], ?_, ?_, Same.refl _, wiped_wipeE, upd_same, free_of k1 hD, ?_, rps_nil.mpr rfl, Nat.zero_le _, p⟩, ?_⟩
      · exact ok_alloc (ok_wipe k1) hD
      · exact x1.wipe.alloc hD
      · exact not_own_fresh (ok_wipe k1) hD
      · rintro i m H2 ⟨rfl, hi, F2, ε2, acc, vacc, k2, x2, s2, w2, hHD, hFD, nD, ra, la, p2⟩
        obtain ⟨y1, y2⟩ := yj F2 H2 s2 k2.sub
        by_cases hlt : i < ds.length
        · right
          obtain ⟨go, y1⟩ := y1 i hlt
          refine ⟨go, fun H3 => ∃ F2 ε2 acc vacc, Ok K T F2 H3 (wipe σ vs) ε2 ∧ Ext F H σ ε F2 H3 (wipe σ vs) ε2 ∧ Same F1 F2 ∧ Wiped vs ε2 ∧ H3 D = some (.lst vacc) ∧ F2 D = none ∧ ¬ OwnAt (wipe σ vs) ε2 D ∧ Rps K T F2 acc vacc ∧ acc.length ≤ i + 1 ∧
            Po K T W F H σ ε ((lcLoop gg ft fe vs (ds.drop (i + 1)) ε2 acc).bind fun acc ε2 => (O.ok (R.new (DL.D.lst acc)) ε2 : O R)) (SE K T H σ Q), fun H' ⟨F2, ε2, z⟩ => ⟨ds.length - (i + 1), by omega, rfl, hlt, F2, ε2, z⟩, fun x H3 hy => ?_⟩
          obtain ⟨F3, d, s3, s4, s5, fr, ed, rd⟩ := y1 x H3 hy
          have hdrop : ds.drop i = d :: ds.drop (i + 1) := by
            rw [List.drop_eq_getElem_cons hlt]
            congr 1
            rw [List.getElem?_eq_getElem hlt] at ed
            exact Option.some.inj ed
          rw [hdrop] at p2
          unfold lcLoop at p2
          cases e3 : gg d ε2 with
          | none => simp only [e3, O.bind_bad] at p2; exact p2.elim
          | some ε3 =>
            simp only [e3] at p2
            have k3 := ok_grow k2 s3 s4 s5 fr
            have x3 := x2.grow s3 s5 fr
            have hHD3 : H3 D = some (.lst vacc) := s5 _ _ hHD
            have hFD3 : F3 D = none := by
              cases h : F3 D with
              | none => rfl
              | some u =>
                rcases fr D (by rw [h]; simp) with z | z
                · exact absurd hFD z
                · rw [hHD] at z; cases z
            refine ⟨F3, ε2, d, ε3, k3, rd, e3, fun F4 H4 σ4 k4 x4 hj hl4 => ?_⟩
            have hw : wipe σ4 vs = wipe σ vs := by
              refine wipe_eq (by rw [hl4, wipe_length]) fun j hjv => hj j fun z => hjv (htg j z)
            refine ⟨hw, ?_⟩
            have x5 := x3.trans x4
            have hHD4 : H4 D = some (.lst vacc) := x4.hk _ _ hHD3 nD
            have nD4 : ¬ OwnAt σ4 ε3 D := fun z => by
              rcases x4.on D z with z | z
              · exact nD z
              · rw [hHD3] at z; cases z
            have hFD4 : F4 D = none := by
              cases h : F4 D with
              | none => rfl
              | some u =>
                rcases x4.fn D (by rw [h]; simp) with z | z | z
                · exact absurd hFD3 z
                · rw [hHD3] at z; cases z
                · exact absurd z nD
            refine ⟨F4, ε3, k4, ?_⟩
            cases e4 : ft ε3 with
            | bad => simp only [e4, O.bind_bad] at p2; exact p2.elim
            | exn c ε4 => simp only [e4, O.bind_bad] at p2; exact p2.elim
            | ok b ε4 =>
              intro F5 H5 k5 x6
              have x7 := x5.trans x6
              have hHD5 : H5 D = some (.lst vacc) := x6.hk _ _ hHD4 nD4
              have nD5 : ¬ OwnAt σ4 ε4 D := fun z => by
                rcases x6.on D z with z | z
                · exact nD4 z
                · rw [hHD4] at z; cases z
              have hFD5 : F5 D = none := by
                cases h : F5 D with
                | none => rfl
                | some u =>
                  rcases x6.fn D (by rw [h]; simp) with z | z | z
                  · exact absurd hFD4 z
                  · rw [hHD4] at z; cases z
                  · exact absurd z nD4
              have s15 : Same F1 F5 := s2.trans (s3.trans (x4.fs.trans x6.fs))
              have r35 : Same F2 F5 := s3.trans (x4.fs.trans x6.fs)
              cases b with
              | false =>
                simp only [e4] at p2
                show _
                refine ⟨F5, wipeE ε4 vs, acc, vacc, ?_, ?_, s15, wiped_wipeE, hHD5, hFD5, ?_, Rps.mono r35 _ _ ra, Nat.le_succ_of_le la, p2⟩
                · rw [← hw]; exact ok_wipe k5
                · rw [← hw]; exact x7.wipe
                · rw [← hw]; exact fun z => nD5 (own_wipe z)
              | true =>
                simp only [e4] at p2
                refine ⟨F5, ε4, k5, ?_⟩
                cases e5 : fe ε4 with
                | bad => simp only [e5, O.bind_bad] at p2; exact p2.elim
                | exn c ε5 => simp only [e5, O.bind_bad] at p2; exact p2.elim
                | ok r ε5 =>
                  simp only [e5] at p2
                  intro F6 H6 k6 x8 v hv hn
                  cases e6 : frz ε5 r with
                  | none => simp only [e6, O.bind_bad] at p2; exact p2.elim
                  | some z =>
                    obtain ⟨y, ε6⟩ := z
                    simp only [e6] at p2
                    have x9 := x7.trans x8
                    obtain ⟨F7, k7, x10, r7, s7, f7, o7⟩ := frz_ok x9 k6 hv (fun a ha => x7.ht a (hn a ha)) e6
                    have hHD6 : H6 D = some (.lst vacc) := x8.hk _ _ hHD5 nD5
                    have nD6 : ¬ OwnAt σ4 ε5 D := fun z => by
                      rcases x8.on D z with z | z
                      · exact nD5 z
                      · rw [hHD5] at z; cases z
                    have hFD6 : F6 D = none := by
                      cases h : F6 D with
                      | none => rfl
                      | some u =>
                        rcases x8.fn D (by rw [h]; simp) with z | z | z
                        · exact absurd hFD5 z
                        · rw [hHD5] at z; cases z
                        · exact absurd z nD5
                    have nD7 : ¬ OwnAt σ4 ε6 D := fun z => nD6 (o7 D z)
                    have hFD7 : F7 D = none := by
                      cases h : F7 D with
                      | none => rfl
                      | some u =>
                        rcases f7 D (by rw [h]; simp) with z | z | z
                        · exact absurd hFD6 z
                        · have := hn D z
                          rw [hHD5] at this; cases this
                        · exact absurd z nD6
                    have lacc : vacc.length = acc.length := ra.length
                    refine ⟨vacc, hHD6, line1M' (by omega), F7, wipeE ε6 vs, acc ++ [y], vacc ++ [v], ?_, ?_, s15.trans (x8.fs.trans s7), wiped_wipeE, upd_same, hFD7, ?_, (Rps.mono (r35.trans (x8.fs.trans s7)) _ _ ra).append (Rps.one r7), ?_, p2⟩
                    · rw [← hw]; exact ok_wipe (ok_upd k7 hFD7 nD7)
                    · rw [← hw]; exact (x10.upd hD0).wipe
                    · rw [← hw]; exact fun z => nD7 (own_wipe z)
                    · rw [List.length_append, List.length_singleton]; omega
        · left
          have ei : i = ds.length := by omega
          subst ei
          rw [List.drop_length] at p2
          refine ⟨y2, ?_⟩
          have p2 : Po K T W F H σ ε (.ok (.new (.lst acc)) ε2) (SE K T H σ Q) := p2
          refine p2 F2 H2 (ok_unwipe k2 w2) (x2.unwipe w2) (.ref D) ⟨D, .lst vacc, rfl, hFD, hHD, ra, fun z => nD (own_unwipe w2 z)⟩ fun a ha => ?_
          have ea : a = D := by simpa [newA] using ha
          subst ea; exact hD0
    · rw [if_neg hlen] at p; exact p.elim
theorem de_lc {own : List (Str × Nat)} {scope : Scope} {fi : En → O (List D)} (hc : X.calm = true) (hN : X.N.Nodup) (hi : DI X T W tg iter fi) (ok : BlkOk X.N X.env.scope scope own)
    (hg : ∀ (s : Shared) (H : Hp) (C : Addr) (cl : List (Str × Addr)) (fp : List Addr), DG (X.blk s H scope (compEnvC scope cl C X.env) fp) T tgs tg gg) (ht : ∀ (s : Shared) (H : Hp) (C : Addr) (cl : List (Str × Addr)) (fp : List Addr), DTs (X.blk s H scope (compEnvC scope cl C X.env) fp) T W0 ifs ft)
    (he : ∀ (s : Shared) (H : Hp) (C : Addr) (cl : List (Str × Addr)) (fp : List Addr), DE (X.blk s H scope (compEnvC scope cl C X.env) fp) T W0 elt fe) (htg : ∀ j ∈ tgs, j ∈ own.map (·.2) := by decide) (hs : ∀ x, foldedSetIterable iter X.env x = pure x := by intro _; rfl) :
    DE X T W (.ListComp elt [⟨tg, iter, ifs, 0⟩] scope pos) (dLC fi gg ft fe (own.map (·.2))) :=
  PE.imp (pe_lc hc hN hi ok hg ht he hs) fun σ H Q q => lc_use htg q
theorem ds_setLc {own : List (Str × Nat)} {scope : Scope} {fi : En → O (List D)} {i : Nat} {y : Str} {py spos : Pos} (hc : X.calm = true) (hN : X.N.Nodup) (hsw : swapsWith (.ListComp elt [⟨tg, iter, ifs, 0⟩] scope pos) (some (.Name y py)) spos.line X.env = pure true) (hi : DI X T W tg iter fi) (ok : BlkOk X.N X.env.scope scope own)
    (hg : ∀ (s : Shared) (H : Hp) (C : Addr) (cl : List (Str × Addr)) (fp : List Addr), DG (X.blk s H scope (compEnvC scope cl C X.env) fp) T tgs tg gg) (ht : ∀ (s : Shared) (H : Hp) (C : Addr) (cl : List (Str × Addr)) (fp : List Addr), DTs (X.blk s H scope (compEnvC scope cl C X.env) fp) T W0 ifs ft)
    (he : ∀ (s : Shared) (H : Hp) (C : Addr) (cl : List (Str × Addr)) (fp : List Addr), DE (X.blk s H scope (compEnvC scope cl C X.env) fp) T W0 elt fe) (hy : X.N[i]? = some y := by rfl) (hyl : X.env.scope.names.lookup y = some .local := by rfl) (hP : i ∉ P := by decide) (htg : ∀ j ∈ tgs, j ∈ own.map (·.2) := by decide) (hs : ∀ x, foldedSetIterable iter X.env x = pure x := by intro _; rfl) :
    DS X T W P (.Assign [.Name y py] (.ListComp elt [⟨tg, iter, ifs, 0⟩] scope pos) spos) (dSet i (dLC fi gg ft fe (own.map (·.2)))) := by
  refine PS.imp (ps_setLc (te := tD X.K T W0 fe) (g := tDG X.K T tgs gg) (tt := tDT X.K T W0 ft) hc hN hy hyl hsw hi ok hg ht he hs) fun D σ H q => ?_
  have := set_use (te := tC .non) hP q
  exact lc_use (K := X.K) htg this
end
end DL

/-! DL6: defs and their calls -/
namespace DL
open PySem PySem.Spec PyProof.Rows L2

/-- what a def does to its arguments' data -/
def spD (K : PySem.W.Frag) (T : Tab) (n : Nat) (φ : En → O R) : Sp := fun vs H Q E => vs.length = n ∧ ∃ F ε, Ok K T F H (vs.map some) ε ∧ Po K T (fun c d _ H' => E c d H') F H (vs.map some) ε (φ ε) (SE K T H (vs.map some) Q)

def isOwn : Sl → Bool
  | .own _ => true
  | _ => false
def ownIn (P : List Nat) (ε : En) : Bool := (List.range ε.length).all fun i => match ε[i]? with
  | some (.own _) => P.contains i
  | _ => true
/-- the parameters behind the body: their own objects as they are then -/
def outE : En → En → En
  | [], _ => []
  | .own d :: ε, s :: ε' => s :: outE ε ε'
  | .fz d :: ε, _ :: ε' => .fz d :: outE ε ε'
  | .no :: ε, _ :: ε' => .no :: outE ε ε'
  | _ :: ε, [] => .no :: outE ε []
def keepOwn : En → En → Bool
  | .own _ :: ε, s :: ε' => isOwn s && keepOwn ε ε'
  | _ :: ε, _ :: ε' => keepOwn ε ε'
  | [], _ => true
  | _, [] => false
def outR (ε ε' : En) : R → Option R
  | .fz d => some (.fz d)
  | .new d => some (.new d)
  | .at j => match ε[j]? with
    | some (.own _) => some (.at j)
    | _ => match ε'[j]? with
      | some (.own d) => if keepOwn ε ε' then some (.new d) else none
      | _ => none
def vOut (ε : En) (fl : Fl) (ε' : En) : O R :=
  match fl with
  | .rt r => match outR ε ε' r with
    | some r' => .ok r' (outE ε ε')
    | none => .bad
  | .nx => .ok (.fz .non) (outE ε ε')
  | _ => .bad
def vFin (ε : En) (o : O Fl) : O R :=
  match o with
  | .bad => .bad
  | .ok fl ε' => vOut ε fl ε'
  | .exn c ε' => .exn c (outE ε ε')
def fnD (P : List Nat) (m : Nat) (g : En → O Fl) : En → O R := fun ε => if ownIn P ε then vFin ε (g (ε ++ List.replicate m .no)) else .bad

theorem ownIn_get {P : List Nat} {ε : En} (h : ownIn P ε = true) {i : Nat} {d : D} (e : ε[i]? = some (.own d)) : i ∈ P := by
  unfold ownIn at h
  rw [List.all_eq_true] at h
  have hi : i < ε.length := (List.getElem?_eq_some_iff.mp e).1
  have := h i (List.mem_range.mpr hi)
  rw [e] at this
  simpa using this
theorem outE_length : ∀ ε ε' : En, (outE ε ε').length = ε.length
  | [], ε' => by unfold outE; rfl
  | .own d :: ε, s :: ε' => by unfold outE; rw [List.length_cons, outE_length ε ε', List.length_cons]
  | .fz d :: ε, _ :: ε' => by unfold outE; rw [List.length_cons, outE_length ε ε', List.length_cons]
  | .no :: ε, _ :: ε' => by unfold outE; rw [List.length_cons, outE_length ε ε', List.length_cons]
  | .own _ :: ε, [] => by unfold outE; rw [List.length_cons, outE_length ε [], List.length_cons]
  | .fz _ :: ε, [] => by unfold outE; rw [List.length_cons, outE_length ε [], List.length_cons]
  | .no :: ε, [] => by unfold outE; rw [List.length_cons, outE_length ε [], List.length_cons]
theorem outE_get : ∀ {ε ε' : En} {i : Nat} {s : Sl}, (outE ε ε')[i]? = some s → (∃ d, ε[i]? = some (.own d) ∧ ε'[i]? = some s) ∨ (∃ d, s = .fz d ∧ ε[i]? = some (.fz d)) ∨ s = .no
  | [], ε', i, s, h => by unfold outE at h; simp at h
  | .own d :: ε, u :: ε', 0, s, h => by unfold outE at h; simp at h; exact .inl ⟨d, rfl, by simp [h]⟩
  | .own d :: ε, u :: ε', i + 1, s, h => by
    unfold outE at h
    have h' : (outE ε ε')[i]? = some s := by simpa using h
    simpa using outE_get h'
  | .fz d :: ε, u :: ε', 0, s, h => by unfold outE at h; simp at h; exact .inr (.inl ⟨d, h.symm, rfl⟩)
  | .fz d :: ε, u :: ε', i + 1, s, h => by
    unfold outE at h
    have h' : (outE ε ε')[i]? = some s := by simpa using h
    simpa using outE_get h'
  | .no :: ε, u :: ε', 0, s, h => by unfold outE at h; simp at h; exact .inr (.inr h.symm)
  | .no :: ε, u :: ε', i + 1, s, h => by
    unfold outE at h
    have h' : (outE ε ε')[i]? = some s := by simpa using h
    simpa using outE_get h'
  | .own d :: ε, [], 0, s, h => by unfold outE at h; simp at h; exact .inr (.inr h.symm)
  | .fz d :: ε, [], 0, s, h => by unfold outE at h; simp at h; exact .inr (.inr h.symm)
  | .no :: ε, [], 0, s, h => by unfold outE at h; simp at h; exact .inr (.inr h.symm)
  | .own d :: ε, [], i + 1, s, h => by
    unfold outE at h
    have h' : (outE ε [])[i]? = some s := by simpa using h
    simpa using outE_get h'
  | .fz d :: ε, [], i + 1, s, h => by
    unfold outE at h
    have h' : (outE ε [])[i]? = some s := by simpa using h
    simpa using outE_get h'
  | .no :: ε, [], i + 1, s, h => by
    unfold outE at h
    have h' : (outE ε [])[i]? = some s := by simpa using h
    simpa using outE_get h'
theorem keepOwn_get : ∀ {ε ε' : En} {i : Nat} {d : D}, keepOwn ε ε' = true → ε[i]? = some (.own d) → ∃ d', ε'[i]? = some (.own d')
  | [], ε', i, d, _, e => by simp at e
  | .own d0 :: ε, s :: ε', 0, d, h, e => by
    unfold keepOwn at h
    rw [Bool.and_eq_true] at h
    cases s with
    | own d' => exact ⟨d', rfl⟩
    | fz d' => cases h.1
    | no => cases h.1
  | .own d0 :: ε, s :: ε', i + 1, d, h, e => by
    unfold keepOwn at h
    rw [Bool.and_eq_true] at h
    simpa using keepOwn_get (i := i) (d := d) h.2 (by simpa using e)
  | .fz d0 :: ε, s :: ε', 0, d, h, e => by simp at e
  | .no :: ε, s :: ε', 0, d, h, e => by simp at e
  | .fz d0 :: ε, s :: ε', i + 1, d, h, e => by
    unfold keepOwn at h
    simpa using keepOwn_get (i := i) (d := d) h (by simpa using e)
  | .no :: ε, s :: ε', i + 1, d, h, e => by
    unfold keepOwn at h
    simpa using keepOwn_get (i := i) (d := d) h (by simpa using e)
  | .own d0 :: ε, [], i, d, h, e => by unfold keepOwn at h; cases h
  | .fz d0 :: ε, [], i, d, h, e => by unfold keepOwn at h; cases h
  | .no :: ε, [], i, d, h, e => by unfold keepOwn at h; cases h

section
variable {K : PySem.W.Frag} {T : Tab} {F H F' H' : Hp} {σ σ' : L2.St} {ε ε' : En} {m : Nat}
theorem app_no {i : Nat} {s : Sl} (hs : s ≠ .no) (e : (ε ++ List.replicate m .no)[i]? = some s) : ε[i]? = some s := by
  by_cases hi : i < ε.length
  · rwa [List.getElem?_append_left hi] at e
  · rw [List.getElem?_append_right (by omega)] at e
    have := List.mem_of_getElem? e
    exact absurd (List.eq_of_mem_replicate this) hs
theorem app_get {α : Type} {xs ys : List α} {i : Nat} {s : α} (e : xs[i]? = some s) : (xs ++ ys)[i]? = some s := by
  rw [List.getElem?_append_left (List.getElem?_eq_some_iff.mp e).1]; exact e
theorem app_back {ε : En} {σ : L2.St} (hl : σ.length = ε.length) {i : Nat} {s : Sl} {u : Option V} (e : ε[i]? = some s) (e' : (σ ++ List.replicate m none)[i]? = some u) : σ[i]? = some u := by
  rwa [List.getElem?_append_left (by rw [hl]; exact (List.getElem?_eq_some_iff.mp e).1)] at e'
theorem ok_app (k : Ok K T F H σ ε) : Ok K T F H (σ ++ List.replicate m none) (ε ++ List.replicate m .no) where
  sub := k.sub
  len := by rw [List.length_append, List.length_append, List.length_replicate, List.length_replicate, k.len]
  fz := fun i d e => by
    obtain ⟨v, e1, r⟩ := k.fz i d (app_no (by simp) e)
    exact ⟨v, app_get e1, r⟩
  own := fun i d e => by
    obtain ⟨a, o, e1, r⟩ := k.own i d (app_no (by simp) e)
    exact ⟨a, o, app_get e1, r⟩
  sep := fun i j d d' a e1 e2 s1 s2 => by
    have f1 := app_no (by simp) e1
    have f2 := app_no (by simp) e2
    exact k.sep i j d d' a f1 f2 (app_back k.len f1 s1) (app_back k.len f2 s2)
theorem own_app (hl : σ.length = ε.length) {a : Addr} : OwnAt (σ ++ List.replicate m none) (ε ++ List.replicate m .no) a ↔ OwnAt σ ε a := by
  constructor
  · rintro ⟨i, d, e, s⟩
    have f := app_no (by simp) e
    exact ⟨i, d, f, app_back hl f s⟩
  · rintro ⟨i, d, e, s⟩
    exact ⟨i, d, app_get e, app_get s⟩
theorem own_out {P : List Nat} (hO : ownIn P ε = true) (hl : σ.length = ε.length) (hP : ∀ i ∈ P, σ'[i]? = (σ ++ List.replicate m none)[i]?) {a : Addr} (h : OwnAt σ (outE ε ε') a) : OwnAt σ' ε' a ∧ ∃ (i : Nat) (d : D), ε[i]? = some (Sl.own d) ∧ σ'[i]? = some (some (V.ref a)) := by
  obtain ⟨i, d, e, s⟩ := h
  rcases outE_get e with ⟨d0, e1, e2⟩ | ⟨d0, e1, e2⟩ | e1
  · have hi := ownIn_get hO e1
    have s' : σ'[i]? = some (some (.ref a)) := by rw [hP i hi]; exact app_get s
    exact ⟨⟨i, d, e2, s'⟩, i, d0, e1, s'⟩
  · cases e1
  · cases e1
theorem ok_out {P : List Nat} (hO : ownIn P ε = true) (k : Ok K T F H σ ε) (k' : Ok K T F' H' σ' ε') (x : Ext F H (σ ++ List.replicate m none) (ε ++ List.replicate m .no) F' H' σ' ε') (hP : ∀ i ∈ P, σ'[i]? = (σ ++ List.replicate m none)[i]?) :
    Ok K T F' H' σ (outE ε ε') ∧ Ext F H σ ε F' H' σ (outE ε ε') := by
  have back : ∀ {i : Nat} {d0 : D} {u : Option V}, ε[i]? = some (.own d0) → σ'[i]? = some u → σ[i]? = some u := fun {i d0 u} e1 s => by
    rw [hP i (ownIn_get hO e1)] at s
    exact app_back k.len e1 s
  refine ⟨⟨k'.sub, by rw [outE_length]; exact k.len, fun i d e => ?_, fun i d e => ?_, fun i j d d' a e1 e2 s1 s2 => ?_⟩, ⟨x.fs, fun a o h n => x.hk a o h fun z => n ((own_app k.len).mp z), x.ht, fun a h => ?_, fun a h => ?_⟩⟩
  · rcases outE_get e with ⟨d0, e1, e2⟩ | ⟨d0, e1, e2⟩ | e1
    · obtain ⟨v, s, r⟩ := k'.fz i d e2
      exact ⟨v, back e1 s, r⟩
    · cases e1
      obtain ⟨v, s, r⟩ := k.fz i d e2
      exact ⟨v, s, Rp.mono x.fs _ _ r⟩
    · cases e1
  · rcases outE_get e with ⟨d0, e1, e2⟩ | ⟨d0, e1, e2⟩ | e1
    · obtain ⟨a, o, s, r⟩ := k'.own i d e2
      exact ⟨a, o, back e1 s, r⟩
    · cases e1
    · cases e1
  · rcases outE_get e1 with ⟨d0, f1, f2⟩ | ⟨d0, f1, f2⟩ | f1
    · rcases outE_get e2 with ⟨d2, g1, g2⟩ | ⟨d2, g1, g2⟩ | g1
      · refine k'.sep i j d d' a f2 g2 ?_ ?_
        · rw [hP i (ownIn_get hO f1)]; exact app_get s1
        · rw [hP j (ownIn_get hO g1)]; exact app_get s2
      · cases g1
      · cases g1
    · cases f1
    · cases f1
  · rcases x.fn a h with z | z | z
    · exact .inl z
    · exact .inr (.inl z)
    · exact .inr (.inr ((own_app k.len).mp z))
  · rcases x.on a (own_out hO k.len hP h).1 with z | z
    · exact .inl ((own_app k.len).mp z)
    · exact .inr z
end

section
variable {P : Program} {w : World} {K : PySem.W.Frag} {mg : Str → Option Value} {base : Heap}
/-- THE RULE for a def -/
theorem fn_ok {x qual : Str} {st : Stmt} {f : Addr} {fd : FuncData} {N ps : List Str} {k : Nat} {T : Tab} {Pr : List Nat} {g : En → O Fl} (n m : Nat) (F : Fun K x qual st f fd) (S : FnScope N ps (defScope st)) (hn : ps.length = n) (hm : N.length - n = m)
    (hbody : ∀ (cdv : Value) (A : Around) (outer : List Env) (s : Shared) (H : Hp) (E : XK), Room k (A.deeper (envOfC qual (defScope st) s.heap.objs.size f cdv)) →
      DSs (cxOf (L2.CX P w) P w K mg base N qual (defScope st) f cdv A outer s H E) T (fun c d _ H' => E c d H') Pr (defBody st) g) : FnOk P w K mg base (L2.CX P w) (k + 1) f fd ps (spD K T n (fnD Pr m g)) := by
  refine F.okX S (fun vs H Q E h => h.1.trans hn.symm) fun cdv A outer s H vs Q E hr hsp => ?_
  refine ⟨_, hbody cdv A outer s H E hr, ?_⟩
  obtain ⟨hl, F0, ε, k0, p⟩ := hsp
  have hst : L2.start N vs = vs.map some ++ List.replicate m none := by unfold L2.start; rw [hl, hm]
  rw [hst]
  unfold fnD at p
  by_cases hO : ownIn Pr ε = true
  · rw [if_pos hO] at p
    refine ⟨F0, _, ok_app (m := m) k0, ?_⟩
    cases e : g (ε ++ List.replicate m .no) with
    | bad => rw [e] at p; exact p.elim
    | exn c ε' =>
      rw [e] at p
      intro F' H' σ' k' x' hP
      obtain ⟨k1, x1⟩ := ok_out hO k0 k' x' hP
      exact p F' H' k1 x1
    | ok fl ε' =>
      rw [e] at p
      have p : Po K T (fun c d _ H' => E c d H') F0 H (vs.map some) ε (vOut ε fl ε') (SE K T H (vs.map some) Q) := p
      intro F' H' σ' k' x' hP
      obtain ⟨k1, x1⟩ := ok_out hO k0 k' x' hP
      cases fl with
      | bk => exact p.elim
      | ct => exact p.elim
      | nx => exact p F' H' k1 x1 .non (show Rp K T F' .non .non from rp_non.mpr rfl) (by simp [newA])
      | rt r =>
        have p : Po K T (fun c d _ H' => E c d H') F0 H (vs.map some) ε (match outR ε ε' r with | some r' => .ok r' (outE ε ε') | none => .bad) (SE K T H (vs.map some) Q) := p
        intro v hv hn'
        cases r with
        | fz d => exact p F' H' k1 x1 v hv hn'
        | new d =>
          obtain ⟨a, o, rfl, f1, g1, q1, n1⟩ := hv
          exact p F' H' k1 x1 (.ref a) ⟨a, o, rfl, f1, g1, q1, fun z => n1 (own_out hO k0.len hP z).1⟩ hn'
        | «at» j =>
          have hv : σ'[j]? = some (some v) := hv
          by_cases hj : ∃ d0 : DL.D, ε[j]? = some (Sl.own d0)
          · obtain ⟨d0, ej⟩ := hj
            have er : outR ε ε' (.at j) = some (.at j) := by simp only [outR, ej]
            rw [er] at p
            refine p F' H' k1 x1 v ?_ (by simp [newA])
            show (vs.map some)[j]? = some (some v)
            rw [hP j (ownIn_get hO ej)] at hv
            exact app_back k0.len ej hv
          · have er : outR ε ε' (.at j) = (match ε'[j]? with | some (.own d) => if keepOwn ε ε' then some (.new d) else none | _ => none) := by
              show (match ε[j]? with | some (.own _) => some (R.at j) | _ => (match ε'[j]? with | some (.own d) => if keepOwn ε ε' then some (R.new d) else none | _ => none)) = _
              cases ej : ε[j]? with
              | none => rfl
              | some s0 =>
                cases s0 with
                | own d0 => exact absurd ⟨d0, ej⟩ hj
                | fz d0 => rfl
                | no => rfl
            rw [er] at p
            cases ej' : ε'[j]? with
            | none => rw [ej'] at p; exact p.elim
            | some s' =>
              rw [ej'] at p
              cases s' with
              | no => exact p.elim
              | fz d => exact p.elim
              | own d =>
                by_cases hk : keepOwn ε ε' = true
                · simp only [hk, if_true] at p
                  obtain ⟨a, o, s1, f1, g1, q1⟩ := k'.own j d ej'
                  rw [hv] at s1
                  cases s1
                  have apart : ∀ (i : Nat) (d1 : DL.D), ε[i]? = some (Sl.own d1) → σ'[i]? = some (some (V.ref a)) → False := fun i d1 e1 s2 => by
                    obtain ⟨d2, e2⟩ := keepOwn_get hk e1
                    have : i = j := k'.sep i j d2 d a e2 ej' s2 hv
                    subst this
                    exact hj ⟨d1, e1⟩
                  refine p F' H' k1 x1 (.ref a) ⟨a, o, rfl, f1, g1, q1, fun z => ?_⟩ fun b hb => ?_
                  · obtain ⟨_, i, d1, e1, s2⟩ := own_out hO k0.len hP z
                    exact apart i d1 e1 s2
                  · have eb : b = a := by simpa [newA] using hb
                    subst eb
                    rcases x'.on b ⟨j, d, ej', hv⟩ with z | z
                    · obtain ⟨i, d1, e1, s2⟩ := (own_app k0.len).mp z
                      exact (apart i d1 e1 (by rw [hP i (ownIn_get hO e1)]; exact app_get s2)).elim
                    · exact z
                · simp only [hk] at p
                  exact p.elim
  · rw [if_neg hO] at p
    exact p.elim
end

/-! ### calls: all arguments only read, a flat answer -/
def ress (ε : En) : List R → Option (List D)
  | [] => some []
  | r :: rs => match res ε r, ress ε rs with
    | some d, some ds => some (d :: ds)
    | _, _ => none
def vCallB (φ : En → O R) (ε : En) (rs : List R) : O R :=
  match ress ε rs with
  | some ds => match φ (ds.map .fz) with
    | .ok (.fz d) _ => if flat d then .ok (.fz d) ε else .bad
    | .ok (.new (.lst es)) _ => if es.all flat then .ok (.new (.lst es)) ε else .bad
    | .exn c _ => .exn c ε
    | _ => .bad
  | none => .bad
def dCallB (φ : En → O R) (fs : En → O (List R)) : En → O R := fun ε => (fs ε).bind fun rs ε1 => vCallB φ ε1 rs
theorem ress_rps {K : PySem.W.Frag} {T : Tab} {F H : Hp} {σ : L2.St} {ε : En} (k : Ok K T F H σ ε) : ∀ {rs : List R} {vs : List V} {ds : List D}, RpRs K T F H σ ε rs vs → ress ε rs = some ds → Rps K T H ds vs
  | [], vs, ds, h, e => by cases e; exact rps_nil.mpr h
  | r :: rs, vs, ds, ⟨v, w, ev, h1, h2⟩, e => by
    unfold ress at e
    split at e
    · rename_i d ds' e1 e2
      cases e
      exact rps_cons.mpr ⟨v, w, ev, res_rp k h1 e1, ress_rps k h2 e2⟩
    · cases e
theorem ok_vals {K : PySem.W.Frag} {T : Tab} {H : Hp} {ds : List D} {vs : List V} (h : Rps K T H ds vs) : Ok K T H H (vs.map some) (ds.map .fz) where
  sub := Same.refl _
  len := by rw [List.length_map, List.length_map, h.length]
  fz := fun i d e => by
    rw [List.getElem?_map] at e
    cases ed : ds[i]? with
    | none => rw [ed] at e; cases e
    | some d' =>
      rw [ed] at e
      cases e
      obtain ⟨v, ev, r⟩ := h.get ed
      exact ⟨v, by rw [List.getElem?_map, ev]; rfl, r⟩
  own := fun i d e => by
    rw [List.getElem?_map] at e
    cases ed : ds[i]? with
    | none => rw [ed] at e; cases e
    | some d' => rw [ed] at e; cases e
  sep := fun i j d d' a e _ _ _ => by
    rw [List.getElem?_map] at e
    cases ed : ds[i]? with
    | none => rw [ed] at e; cases e
    | some d' => rw [ed] at e; cases e
theorem not_own_vals {ds : List D} {σ : L2.St} {a : Addr} : ¬ OwnAt σ (ds.map .fz) a := fun ⟨i, d, e, _⟩ => by
  rw [List.getElem?_map] at e
  cases ed : ds[i]? with
  | none => rw [ed] at e; cases e
  | some d' => rw [ed] at e; cases e
theorem flats_rp {K : PySem.W.Frag} {T : Tab} {F F' : Hp} : ∀ {ds : List D} {vs : List V}, ds.all flat = true → Rps K T F ds vs → Rps K T F' ds vs
  | [], vs, _, h => rps_nil.mpr (rps_nil.mp h)
  | d :: ds, vs, hf, h => by
    obtain ⟨v, r, e, h1, h2⟩ := rps_cons.mp h
    rw [List.all_cons, Bool.and_eq_true] at hf
    exact rps_cons.mpr ⟨v, r, e, flat_rp hf.1 h1, flats_rp hf.2 h2⟩
/-- at a call: from the caller's state to the callee's promise -/
theorem callB_use {K : PySem.W.Frag} {T : Tab} {W : WX} {φ : En → O R} {n : Nat} {F0 H0 F1 H1 : Hp} {σ : L2.St} {ε0 ε1 : En} {rs : List R} {vs : List V} {Q : VK} (hn : rs.length = n) (k1 : Ok K T F1 H1 σ ε1) (x1 : Ext F0 H0 σ ε0 F1 H1 σ ε1) (q1 : RpRs K T F1 H1 σ ε1 rs vs)
    (p : Po K T W F0 H0 σ ε0 (vCallB φ ε1 rs) (SE K T H0 σ Q)) : spD K T n φ vs H1 Q (WE W σ) := by
  unfold vCallB at p
  cases e1 : ress ε1 rs with
  | none => simp only [e1] at p; exact p.elim
  | some ds =>
    simp only [e1] at p
    have hr := ress_rps k1 q1 e1
    refine ⟨by rw [q1.length]; exact hn, H1, ds.map .fz, ok_vals hr, ?_⟩
    cases e2 : φ (ds.map .fz) with
    | bad => simp only [e2] at p; exact p.elim
    | exn c ε' =>
      simp only [e2] at p
      intro F' H' k' x'
      have s3 : Same H1 H' := fun a o h => x'.hk a o h not_own_vals
      exact p F1 H' (ok_grow k1 (Same.refl _) (k1.sub.trans s3) s3 fun a h => .inl h) (x1.grow (Same.refl _) s3 fun a h => .inl h)
    | ok r ε' =>
      intro F' H' k' x' v hv hnew
      have s3 : Same H1 H' := fun a o h => x'.hk a o h not_own_vals
      have k2 : Ok K T F1 H' σ ε1 := ok_grow k1 (Same.refl _) (k1.sub.trans s3) s3 fun a h => .inl h
      have x2 : Ext F0 H0 σ ε0 F1 H' σ ε1 := x1.grow (Same.refl _) s3 fun a h => .inl h
      cases r with
      | fz d =>
        simp only [e2] at p
        by_cases hf : flat d = true
        · rw [if_pos hf] at p
          exact SE.flat k2 x2 p hf hv
        · rw [if_neg hf] at p; exact p.elim
      | «at» j => simp only [e2] at p; exact p.elim
      | new d =>
        cases d with
        | lst es =>
          simp only [e2] at p
          by_cases hf : es.all flat = true
          · rw [if_pos hf] at p
            obtain ⟨a, o, rfl, f1, g1, r1, _⟩ := hv
            have ha : H1 a = none := hnew a (by simp [newA])
            obtain ⟨us, rfl, r2⟩ := rpO_lst.mp r1
            refine SE.fin k2 x2 p ⟨a, _, rfl, ?_, g1, rpO_lst.mpr ⟨us, rfl, flats_rp hf r2⟩, fun ⟨i, d, e, s⟩ => ?_⟩ fun b hb => ?_
            · cases h : F1 a with
              | none => rfl
              | some u => rw [k1.sub _ _ h] at ha; cases ha
            · obtain ⟨b, o, s', _, g2, _⟩ := k1.own i d e
              rw [s] at s'; cases s'
              rw [ha] at g2; cases g2
            · have eb : b = a := by simpa [newA] using hb
              subst eb
              exact x1.ht _ ha
          · rw [if_neg hf] at p; exact p.elim
        | _ => simp only [e2] at p; exact p.elim
end DL

/-! DL7: calls that hand on objects of the caller's -/
namespace DL
open PySem PySem.Spec PyProof.Rows L2

/-- the arguments that are only values are frozen (ms: which are handed on as the caller's own objects) -/
def frzM : En → List Bool → List R → Option (List R × En)
  | ε, [], [] => some ([], ε)
  | ε, true :: ms, r :: rs => match frzM ε ms rs with
    | some (rs', ε') => some (r :: rs', ε')
    | none => none
  | ε, false :: ms, r :: rs => match frz ε r with
    | some (d, ε1) => match frzM ε1 ms rs with
      | some (rs', ε') => some (.fz d :: rs', ε')
      | none => none
    | none => none
  | _, _, _ => none
/-- the callee's slots -/
def cSl (ε : En) : Bool → R → Option Sl
  | false, .fz d => some (.fz d)
  | true, .new d => some (.own d)
  | true, .at j => match ε[j]? with
    | some (.own d) => some (.own d)
    | _ => none
  | _, _ => none
def cSls (ε : En) : List Bool → List R → Option En
  | [], [] => some []
  | m :: ms, r :: rs => match cSl ε m r, cSls ε ms rs with
    | some s, some ss => some (s :: ss)
    | _, _ => none
  | _, _ => none
/-- what the callee made of the caller's own objects -/
def upR : List R → En → En → En
  | .at j :: rs, s :: ss, ε => upR rs ss (ε.set j s)
  | .fz _ :: rs, _ :: ss, ε => upR rs ss ε
  | .new _ :: rs, _ :: ss, ε => upR rs ss ε
  | _, _, ε => ε
def atsOf : List R → List Nat
  | [] => []
  | .at j :: rs => j :: atsOf rs
  | _ :: rs => atsOf rs
def cRes (rs : List R) : R → Option R
  | .fz d => some (.fz d)
  | .new d => some (.new d)
  | .at i => match rs[i]? with
    | some (.at j) => some (.at j)
    | _ => none
def vCall (φ : En → O R) (ms : List Bool) (ε : En) (rs : List R) : O R :=
  match frzM ε ms rs with
  | some (rs', ε1) => if (atsOf rs').Nodup then match cSls ε1 ms rs' with
      | some εc => match φ εc with
        | .bad => .bad
        | .exn c εc' => .exn c (upR rs' εc' ε1)
        | .ok r εc' => match cRes rs' r with
          | some r' => .ok r' (upR rs' εc' ε1)
          | none => .bad
      | none => .bad
    else .bad
  | none => .bad
def dCall (φ : En → O R) (ms : List Bool) (fs : En → O (List R)) : En → O R := fun ε => (fs ε).bind fun rs ε1 => vCall φ ms ε1 rs

theorem frzM_ok {K : PySem.W.Frag} {T : Tab} {F0 H0 : Hp} {σ0 σ : L2.St} {ε0 : En} : ∀ {ms : List Bool} {rs rs' : List R} {vs : List V} {F H : Hp} {ε ε' : En}, Ext F0 H0 σ0 ε0 F H σ ε → Ok K T F H σ ε → RpRs K T F H σ ε rs vs →
    (∀ a ∈ newAs rs vs, H0 a = none) → (newAs rs vs).Nodup → frzM ε ms rs = some (rs', ε') → ∃ F', Ok K T F' H σ ε' ∧ Ext F0 H0 σ0 ε0 F' H σ ε' ∧ RpRs K T F' H σ ε' rs' vs ∧ Same F F' ∧ (∀ a ∈ newAs rs' vs, a ∈ newAs rs vs) ∧ (newAs rs' vs).Nodup ∧
      (∀ b, F' b ≠ none → F b ≠ none ∨ OwnAt σ ε b ∨ (b ∈ newAs rs vs ∧ b ∉ newAs rs' vs)) ∧ (∀ b, OwnAt σ ε' b → OwnAt σ ε b)
  | [], [], rs', vs, F, H, ε, ε', x, k, h, hn, nd, e => by
    unfold frzM at e
    cases e
    exact ⟨F, k, x, h, Same.refl _, fun a ha => ha, nd, fun b hb => .inl hb, fun b hb => hb⟩
  | true :: ms, r :: rs, rs', vs, F, H, ε, ε', x, k, h, hn, nd, e => by
    obtain ⟨v, w, rfl, h1, h2⟩ := h
    unfold frzM at e
    split at e
    · rename_i rs1 ε1 e1
      cases e
      have nd' : (newA r v ++ newAs rs w).Nodup := nd
      obtain ⟨n1, n2, n3⟩ := List.nodup_append.mp nd'
      obtain ⟨F1, k1, x1, r1, s1, a1, b1, f1, o1⟩ := frzM_ok x k h2 (fun a ha => hn a (List.mem_append_right _ ha)) n2 e1
      have hr : RpR K T F1 H σ ε' r v := by
        cases r with
        | fz d => exact Rp.mono s1 _ _ h1
        | «at» j => exact h1
        | new d =>
          obtain ⟨a, o, rfl, f, g, q, n⟩ := h1
          refine ⟨a, o, rfl, ?_, g, q.mono s1, fun z => n (o1 a z)⟩
          cases hf : F1 a with
          | none => rfl
          | some u =>
            rcases f1 a (by rw [hf]; simp) with z | z | z
            · exact absurd f z
            · exact absurd z n
            · exact absurd rfl (n3 a (by simp [newA]) a z.1)
      refine ⟨F1, k1, x1, ⟨v, w, rfl, hr, r1⟩, s1, fun a ha => ?_, ?_, fun b hb => ?_, o1⟩
      · rcases List.mem_append.mp (show a ∈ newA r v ++ newAs rs1 w from ha) with z | z
        · exact List.mem_append_left _ z
        · exact List.mem_append_right _ (a1 a z)
      · show (newA r v ++ newAs rs1 w).Nodup
        exact List.nodup_append.mpr ⟨n1, b1, fun a ha b hb => n3 a ha b (a1 b hb)⟩
      · rcases f1 b hb with z | z | ⟨z1, z2⟩
        · exact .inl z
        · exact .inr (.inl z)
        · refine .inr (.inr ⟨List.mem_append_right _ z1, fun z => ?_⟩)
          rcases List.mem_append.mp (show b ∈ newA r v ++ newAs rs1 w from z) with y | y
          · exact n3 b y b z1 rfl
          · exact z2 y
    · cases e
  | false :: ms, r :: rs, rs', vs, F, H, ε, ε', x, k, h, hn, nd, e => by
    obtain ⟨v, w, rfl, h1, h2⟩ := h
    unfold frzM at e
    split at e
    · rename_i d ε1 e1
      split at e
      · rename_i rs1 ε2 e2
        cases e
        have nd' : (newA r v ++ newAs rs w).Nodup := nd
        obtain ⟨n1, n2, n3⟩ := List.nodup_append.mp nd'
        obtain ⟨F1, k1, x1, r1, s1, f1, o1⟩ := frz_ok x k h1 (fun a ha => hn a (List.mem_append_left _ ha)) e1
        have h2' := h2.left s1 f1 o1 fun a ha hb => n3 a hb a ha rfl
        obtain ⟨F2, k2, x2, r2, s2, a2, b2, f2, o2⟩ := frzM_ok x1 k1 h2' (fun a ha => hn a (List.mem_append_right _ ha)) n2 e2
        refine ⟨F2, k2, x2, ⟨v, w, rfl, Rp.mono s2 _ _ r1, r2⟩, s1.trans s2, fun a ha => ?_, ?_, fun b hb => ?_, fun b hb => o1 b (o2 b hb)⟩
        · have ha : a ∈ newAs rs1 w := ha
          exact List.mem_append_right _ (a2 a ha)
        · exact b2
        · rcases f2 b hb with z | z | ⟨z1, z2⟩
          · rcases f1 b z with y | y | y
            · exact .inl y
            · exact .inr (.inr ⟨List.mem_append_left _ y, fun q => n3 b y b (a2 b q) rfl⟩)
            · exact .inr (.inl y)
          · exact .inr (.inl (o1 b z))
          · exact .inr (.inr ⟨List.mem_append_right _ z1, z2⟩)
      · cases e
    · cases e
  | [], _ :: _, rs', vs, F, H, ε, ε', x, k, h, hn, nd, e => by unfold frzM at e; cases e
  | true :: _, [], rs', vs, F, H, ε, ε', x, k, h, hn, nd, e => by unfold frzM at e; cases e
  | false :: _, [], rs', vs, F, H, ε, ε', x, k, h, hn, nd, e => by unfold frzM at e; cases e

theorem RpRs.get {K : PySem.W.Frag} {T : Tab} {F H : Hp} {σ : L2.St} {ε : En} : ∀ {rs : List R} {vs : List V} {i : Nat} {r : R}, RpRs K T F H σ ε rs vs → rs[i]? = some r → ∃ v, vs[i]? = some v ∧ RpR K T F H σ ε r v
  | [], vs, i, r, h, e => by simp at e
  | r0 :: rs, _, 0, r, ⟨v, w, rfl, h1, _⟩, e => by simp at e; subst e; exact ⟨v, rfl, h1⟩
  | r0 :: rs, _, i + 1, r, ⟨v, w, rfl, _, h2⟩, e => by
    obtain ⟨v', e1, h3⟩ := RpRs.get (i := i) (r := r) h2 (by simpa using e)
    exact ⟨v', by simpa using e1, h3⟩
theorem cSls_length {ε : En} : ∀ {ms : List Bool} {rs : List R} {ss : En}, cSls ε ms rs = some ss → ss.length = rs.length
  | [], [], ss, e => by unfold cSls at e; cases e; rfl
  | m :: ms, r :: rs, ss, e => by
    unfold cSls at e
    split at e
    · rename_i s ss' e1 e2
      cases e
      rw [List.length_cons, List.length_cons, cSls_length e2]
    · cases e
  | [], _ :: _, ss, e => by unfold cSls at e; cases e
  | _ :: _, [], ss, e => by unfold cSls at e; cases e
theorem cSls_get {ε : En} : ∀ {ms : List Bool} {rs : List R} {ss : En} {i : Nat} {s : Sl}, cSls ε ms rs = some ss → ss[i]? = some s → ∃ m r, rs[i]? = some r ∧ cSl ε m r = some s
  | [], [], ss, i, s, e, es => by unfold cSls at e; cases e; simp at es
  | m :: ms, r :: rs, ss, i, s, e, es => by
    unfold cSls at e
    split at e
    · rename_i s1 ss' e1 e2
      cases e
      cases i with
      | zero => simp at es; subst es; exact ⟨m, r, rfl, e1⟩
      | succ i => simpa using cSls_get (i := i) (s := s) e2 (by simpa using es)
    · cases e
  | [], _ :: _, ss, i, s, e, es => by unfold cSls at e; cases e
  | _ :: _, [], ss, i, s, e, es => by unfold cSls at e; cases e
theorem cSl_fz {ε : En} {m : Bool} {r : R} {d : D} (e : cSl ε m r = some (.fz d)) : r = .fz d := by
  cases m <;> cases r <;> simp only [cSl] at e
  · cases e; rfl
  all_goals (first | (cases e; done) | skip)
  split at e <;> cases e
theorem cSl_own {ε : En} {m : Bool} {r : R} {d : D} (e : cSl ε m r = some (.own d)) : r = .new d ∨ ∃ j, r = .at j ∧ ε[j]? = some (.own d) := by
  cases m <;> cases r <;> simp only [cSl] at e
  all_goals (first | (cases e; done) | skip)
  · cases e; exact .inl rfl
  · split at e
    · rename_i d' h; cases e; exact .inr ⟨_, rfl, h⟩
    · cases e
theorem upR_length : ∀ {rs : List R} {ss ε : En}, (upR rs ss ε).length = ε.length
  | [], ss, ε => by unfold upR; rfl
  | .at j :: rs, [], ε => by unfold upR; rfl
  | .fz _ :: rs, [], ε => by unfold upR; rfl
  | .new _ :: rs, [], ε => by unfold upR; rfl
  | .at j :: rs, s :: ss, ε => by unfold upR; rw [upR_length, List.length_set]
  | .fz _ :: rs, s :: ss, ε => by unfold upR; rw [upR_length]
  | .new _ :: rs, s :: ss, ε => by unfold upR; rw [upR_length]
theorem upR_get : ∀ {rs : List R} {ss ε : En} (j : Nat), (∃ (i : Nat) (s : Sl), rs[i]? = some (.at j) ∧ ss[i]? = some s ∧ (j < ε.length → (upR rs ss ε)[j]? = some s)) ∨ ((upR rs ss ε)[j]? = ε[j]? ∧ ∀ (i : Nat) (s : Sl), rs[i]? = some (.at j) → ss[i]? = some s → False)
  | [], ss, ε, j => by unfold upR; exact .inr ⟨rfl, fun i s h => by simp at h⟩
  | .at k :: rs, [], ε, j => by unfold upR; exact .inr ⟨rfl, fun i s _ h => by simp at h⟩
  | .fz _ :: rs, [], ε, j => by unfold upR; exact .inr ⟨rfl, fun i s _ h => by simp at h⟩
  | .new _ :: rs, [], ε, j => by unfold upR; exact .inr ⟨rfl, fun i s _ h => by simp at h⟩
  | .at k :: rs, s0 :: ss, ε, j => by
    unfold upR
    rcases upR_get (rs := rs) (ss := ss) (ε := ε.set k s0) j with ⟨i, s, h1, h2, h3⟩ | ⟨h1, h2⟩
    · exact .inl ⟨i + 1, s, by simpa using h1, by simpa using h2, fun hl => h3 (by rw [List.length_set]; exact hl)⟩
    · by_cases e : k = j
      · subst e
        exact .inl ⟨0, s0, rfl, rfl, fun hl => by rw [h1, List.getElem?_set_self hl]⟩
      · refine .inr ⟨by rw [h1, List.getElem?_set_ne e], fun i s e1 e2 => ?_⟩
        cases i with
        | zero => simp at e1; exact e e1
        | succ i => exact h2 i s (by simpa using e1) (by simpa using e2)
  | .fz d :: rs, s0 :: ss, ε, j => by
    unfold upR
    rcases upR_get (rs := rs) (ss := ss) (ε := ε) j with ⟨i, s, h1, h2, h3⟩ | ⟨h1, h2⟩
    · exact .inl ⟨i + 1, s, by simpa using h1, by simpa using h2, h3⟩
    · refine .inr ⟨h1, fun i s e1 e2 => ?_⟩
      cases i with
      | zero => simp at e1
      | succ i => exact h2 i s (by simpa using e1) (by simpa using e2)
  | .new d :: rs, s0 :: ss, ε, j => by
    unfold upR
    rcases upR_get (rs := rs) (ss := ss) (ε := ε) j with ⟨i, s, h1, h2, h3⟩ | ⟨h1, h2⟩
    · exact .inl ⟨i + 1, s, by simpa using h1, by simpa using h2, h3⟩
    · refine .inr ⟨h1, fun i s e1 e2 => ?_⟩
      cases i with
      | zero => simp at e1
      | succ i => exact h2 i s (by simpa using e1) (by simpa using e2)
theorem mem_newAs : ∀ {rs : List R} {vs : List V} {i : Nat} {d : D} {a : Addr}, rs[i]? = some (.new d) → vs[i]? = some (.ref a) → a ∈ newAs rs vs
  | [], vs, i, d, a, e, _ => by simp at e
  | r :: rs, [], i, d, a, _, e => by simp at e
  | r :: rs, v :: vs, 0, d, a, e1, e2 => by
    simp at e1 e2; subst e1 e2
    simp [newAs, newA]
  | r :: rs, v :: vs, i + 1, d, a, e1, e2 => by
    unfold newAs
    exact List.mem_append_right _ (mem_newAs (i := i) (d := d) (by simpa using e1) (by simpa using e2))
theorem newAs_inj : ∀ {rs : List R} {vs : List V} {i j : Nat} {d d' : D} {a : Addr}, (newAs rs vs).Nodup → rs[i]? = some (.new d) → rs[j]? = some (.new d') → vs[i]? = some (.ref a) → vs[j]? = some (.ref a) → i = j
  | [], vs, i, j, d, d', a, _, e, _, _, _ => by simp at e
  | r :: rs, [], i, j, d, d', a, _, _, _, e, _ => by simp at e
  | r :: rs, v :: vs, i, j, d, d', a, nd, e1, e2, s1, s2 => by
    have nd' : (newA r v ++ newAs rs vs).Nodup := nd
    obtain ⟨n1, n2, n3⟩ := List.nodup_append.mp nd'
    cases i with
    | zero =>
      cases j with
      | zero => rfl
      | succ j =>
        simp at e1 s1; subst e1 s1
        exact absurd rfl (n3 a (by simp [newA]) a (mem_newAs (i := j) (d := d') (by simpa using e2) (by simpa using s2)))
    | succ i =>
      cases j with
      | zero =>
        simp at e2 s2; subst e2 s2
        exact absurd rfl (n3 a (by simp [newA]) a (mem_newAs (i := i) (d := d) (by simpa using e1) (by simpa using s1)))
      | succ j => rw [newAs_inj (i := i) (j := j) (d := d) (d' := d') n2 (by simpa using e1) (by simpa using e2) (by simpa using s1) (by simpa using s2)]
theorem ats_inj : ∀ {rs : List R} {i k j : Nat}, (atsOf rs).Nodup → rs[i]? = some (.at j) → rs[k]? = some (.at j) → i = k := by
  have mem : ∀ {rs : List R} {i j : Nat}, rs[i]? = some (.at j) → j ∈ atsOf rs := by
    intro rs
    induction rs with
    | nil => intro i j e; simp at e
    | cons r rs ih =>
      intro i j e
      cases i with
      | zero => simp at e; subst e; simp [atsOf]
      | succ i =>
        have := ih (i := i) (j := j) (by simpa using e)
        cases r <;> simp [atsOf, this]
  intro rs
  induction rs with
  | nil => intro i k j _ e; simp at e
  | cons r rs ih =>
    intro i k j nd e1 e2
    cases i with
    | zero =>
      cases k with
      | zero => rfl
      | succ k =>
        simp at e1; subst e1
        have nd' : (j :: atsOf rs).Nodup := nd
        exact absurd (mem (i := k) (by simpa using e2)) (List.nodup_cons.mp nd').1
    | succ i =>
      cases k with
      | zero =>
        simp at e2; subst e2
        have nd' : (j :: atsOf rs).Nodup := nd
        exact absurd (mem (i := i) (by simpa using e1)) (List.nodup_cons.mp nd').1
      | succ k =>
        have nd' : (atsOf rs).Nodup := by
          cases r with
          | «at» q => exact (List.nodup_cons.mp (show (q :: atsOf rs).Nodup from nd)).2
          | fz d => exact nd
          | new d => exact nd
        rw [ih (i := i) (k := k) (j := j) nd' (by simpa using e1) (by simpa using e2)]

section
variable {K : PySem.W.Frag} {T : Tab} {W : WX}
theorem call_use {φ : En → O R} {n : Nat} {ms : List Bool} {F0 H0 F1 H1 : Hp} {σ : L2.St} {ε0 ε1 : En} {rs : List R} {vs : List V} {Q : VK} (hn : rs.length = n) (k1 : Ok K T F1 H1 σ ε1) (x1 : Ext F0 H0 σ ε0 F1 H1 σ ε1) (q1 : RpRs K T F1 H1 σ ε1 rs vs)
    (n1 : ∀ a ∈ newAs rs vs, H0 a = none) (nd1 : (newAs rs vs).Nodup) (p : Po K T W F0 H0 σ ε0 (vCall φ ms ε1 rs) (SE K T H0 σ Q)) : spD K T n φ vs H1 Q (WE W σ) := by
  unfold vCall at p
  cases e1 : frzM ε1 ms rs with
  | none => simp only [e1] at p; exact p.elim
  | some z =>
    obtain ⟨rs', ε2⟩ := z
    simp only [e1] at p
    obtain ⟨F2, k2, x2, q2, s2, a2, nd2, f2, o2⟩ := frzM_ok x1 k1 q1 n1 nd1 e1
    have n2 : ∀ a ∈ newAs rs' vs, H0 a = none := fun a ha => n1 a (a2 a ha)
    have hlen : vs.length = rs'.length := q2.length
    by_cases hnd : (atsOf rs').Nodup
    · rw [if_pos hnd] at p
      cases e2 : cSls ε2 ms rs' with
      | none => simp only [e2] at p; exact p.elim
      | some εc =>
        simp only [e2] at p
        have hlc : εc.length = rs'.length := cSls_length e2
        have vget : ∀ {i : Nat} {u : Option V}, (vs.map some)[i]? = some u → ∃ v, u = some v ∧ vs[i]? = some v := fun {i u} e => by
          rw [List.getElem?_map] at e
          cases h : vs[i]? with
          | none => rw [h] at e; cases e
          | some v => rw [h] at e; cases e; exact ⟨v, rfl, rfl⟩
        have vmk : ∀ {i : Nat} {v : V}, vs[i]? = some v → (vs.map some)[i]? = some (some v) := fun {i v} e => by rw [List.getElem?_map, e]; rfl
        -- an object that the callee owns
        have own1 : ∀ {i : Nat} {d : D} {a : Addr}, εc[i]? = some (.own d) → vs[i]? = some (.ref a) → (rs'[i]? = some (.new d) ∧ ¬ OwnAt σ ε2 a ∧ H0 a = none) ∨ ∃ j, rs'[i]? = some (.at j) ∧ ε2[j]? = some (.own d) ∧ σ[j]? = some (some (.ref a)) := fun {i d a} e ev => by
          obtain ⟨m, r, er, ec⟩ := cSls_get e2 e
          rcases cSl_own ec with rfl | ⟨j, rfl, ej⟩
          · obtain ⟨v, ev', b, o, eb, f, g, q, n⟩ := q2.get er
            rw [ev] at ev'; cases ev'; cases eb
            exact .inl ⟨er, n, n2 _ (mem_newAs er ev)⟩
          · obtain ⟨v, ev', h⟩ := q2.get er
            rw [ev] at ev'; cases ev'
            exact .inr ⟨j, er, ej, h⟩
        have kc : Ok K T F2 H1 (vs.map some) εc := by
          refine ⟨k2.sub, by rw [List.length_map, hlen, hlc], fun i d e => ?_, fun i d e => ?_, fun i j d d' a e3 e4 s3 s4 => ?_⟩
          · obtain ⟨m, r, er, ec⟩ := cSls_get e2 e
            have := cSl_fz ec
            subst this
            obtain ⟨v, ev, h⟩ := q2.get er
            exact ⟨v, vmk ev, h⟩
          · obtain ⟨m, r, er, ec⟩ := cSls_get e2 e
            obtain ⟨v, ev, h⟩ := q2.get er
            rcases cSl_own ec with rfl | ⟨j, rfl, ej⟩
            · obtain ⟨b, o, rfl, f, g, q, n⟩ := h
              exact ⟨b, o, vmk ev, f, g, q⟩
            · obtain ⟨b, o, s, f, g, q⟩ := k2.own j d ej
              rw [show σ[j]? = some (some v) from h] at s
              cases s
              exact ⟨b, o, vmk ev, f, g, q⟩
          · obtain ⟨v, ev, s3⟩ := vget s3
            cases ev
            obtain ⟨v, ev, s4⟩ := vget s4
            cases ev
            rcases own1 e3 s3 with ⟨r3, o3, _⟩ | ⟨j3, r3, w3, t3⟩
            · rcases own1 e4 s4 with ⟨r4, o4, _⟩ | ⟨j4, r4, w4, t4⟩
              · exact newAs_inj nd2 r3 r4 s3 s4
              · exact absurd ⟨j4, d', w4, t4⟩ o3
            · rcases own1 e4 s4 with ⟨r4, o4, _⟩ | ⟨j4, r4, w4, t4⟩
              · exact absurd ⟨j3, d, w3, t3⟩ o4
              · have : j3 = j4 := k2.sep j3 j4 d d' a w3 w4 t3 t4
                subst this
                exact ats_inj hnd r3 r4
        -- .. is a new one, or one of the caller's
        have own2 : ∀ a, OwnAt (vs.map some) εc a → OwnAt σ ε2 a ∨ H0 a = none := fun a ⟨i, d, e, s⟩ => by
          obtain ⟨v, ev, s⟩ := vget s
          cases ev
          rcases own1 e s with ⟨_, _, h⟩ | ⟨j, _, w, t⟩
          · exact .inr h
          · exact .inl ⟨j, d, w, t⟩
        have own3 : ∀ a, OwnAt (vs.map some) εc a → OwnAt σ ε0 a ∨ H0 a = none := fun a h => (own2 a h).elim (fun z => x2.on a z) .inr
        -- behind the call
        have back : ∀ {F' H' : Hp} {εc' : En}, Ok K T F' H' (vs.map some) εc' → Ext F2 H1 (vs.map some) εc F' H' (vs.map some) εc' → Ok K T F' H' σ (upR rs' εc' ε2) ∧ Ext F0 H0 σ ε0 F' H' σ (upR rs' εc' ε2) ∧ (∀ a, OwnAt σ (upR rs' εc' ε2) a → OwnAt (vs.map some) εc' a ∨ OwnAt σ ε2 a) := by
          intro F' H' εc' k' x'
          have hlc' : εc'.length = rs'.length := by rw [← k'.len, List.length_map, hlen]
          have some_of : ∀ {i j : Nat}, rs'[i]? = some (.at j) → ∃ s, εc'[i]? = some s := fun {i j} e => by
            have hi : i < rs'.length := (List.getElem?_eq_some_iff.mp e).1
            exact ⟨_, List.getElem?_eq_getElem (by rw [hlc']; exact hi)⟩
          have slot : ∀ {i j : Nat}, rs'[i]? = some (.at j) → ∃ v, vs[i]? = some v ∧ σ[j]? = some (some v) := fun {i j} e => by
            obtain ⟨v, ev, h⟩ := q2.get e
            exact ⟨v, ev, h⟩
          have rng : ∀ {i j : Nat}, rs'[i]? = some (.at j) → j < ε2.length := fun {i j} e => by
            obtain ⟨v, _, h⟩ := slot e
            rw [← k2.len]
            exact (List.getElem?_eq_some_iff.mp h).1
          -- what the callee does not own stays
          have stay : ∀ {j : Nat} {d : D} {a : Addr} {o : HO}, ε2[j]? = some (.own d) → σ[j]? = some (some (.ref a)) → H1 a = some o → F2 a = none → (∀ (i : Nat) (s : Sl), rs'[i]? = some (.at j) → εc'[i]? = some s → False) → H' a = some o ∧ F' a = none := fun {j d a o} ej sj h1 f1 no => by
            have nc : ¬ OwnAt (vs.map some) εc a := fun ⟨i, d', e, s⟩ => by
              obtain ⟨v, ev, s⟩ := vget s
              cases ev
              rcases own1 e s with ⟨_, n, _⟩ | ⟨j', r', w, t⟩
              · exact n ⟨j, d, ej, sj⟩
              · have : j' = j := k2.sep j' j d' d a w ej t sj
                subst this
                obtain ⟨s', es'⟩ := some_of r'
                exact no i s' r' es'
            refine ⟨x'.hk a o h1 nc, ?_⟩
            cases h : F' a with
            | none => rfl
            | some u =>
              rcases x'.fn a (by rw [h]; simp) with z | z | z
              · exact absurd f1 z
              · rw [h1] at z; cases z
              · exact absurd z nc
          have kO : Ok K T F' H' σ (upR rs' εc' ε2) := by
            refine ⟨k'.sub, by rw [upR_length]; exact k2.len, fun j d e => ?_, fun j d e => ?_, fun j1 j2 d1 d2 a e3 e4 s3 s4 => ?_⟩
            · rcases upR_get (rs := rs') (ss := εc') (ε := ε2) j with ⟨i, s, r1, r2, r3⟩ | ⟨r1, _⟩
              · rw [r3 (rng r1)] at e
                cases e
                obtain ⟨v, ev, h⟩ := k'.fz i d r2
                obtain ⟨u, eu, ev⟩ := vget ev
                cases eu
                obtain ⟨w, ew, sw⟩ := slot r1
                rw [ev] at ew; cases ew
                exact ⟨v, sw, h⟩
              · rw [r1] at e
                obtain ⟨v, ev, h⟩ := k2.fz j d e
                exact ⟨v, ev, Rp.mono x'.fs _ _ h⟩
            · rcases upR_get (rs := rs') (ss := εc') (ε := ε2) j with ⟨i, s, r1, r2, r3⟩ | ⟨r1, r2⟩
              · rw [r3 (rng r1)] at e
                cases e
                obtain ⟨a, o, ev, h⟩ := k'.own i d r2
                obtain ⟨u, eu, ev⟩ := vget ev
                cases eu
                obtain ⟨w, ew, sw⟩ := slot r1
                rw [ev] at ew; cases ew
                exact ⟨a, o, sw, h⟩
              · rw [r1] at e
                obtain ⟨a, o, ev, f, g, q⟩ := k2.own j d e
                obtain ⟨g', f'⟩ := stay e ev g f r2
                exact ⟨a, o, ev, f', g', q.mono x'.fs⟩
            · rcases upR_get (rs := rs') (ss := εc') (ε := ε2) j1 with ⟨i1, u1, r1, r2, r3⟩ | ⟨r1, r2⟩
              · rw [r3 (rng r1)] at e3
                cases e3
                obtain ⟨w1, ew1, sw1⟩ := slot r1
                rw [s3] at sw1; cases sw1
                rcases upR_get (rs := rs') (ss := εc') (ε := ε2) j2 with ⟨i2, u2, t1, t2, t3⟩ | ⟨t1, t2⟩
                · rw [t3 (rng t1)] at e4
                  cases e4
                  obtain ⟨w2, ew2, sw2⟩ := slot t1
                  rw [s4] at sw2; cases sw2
                  have : i1 = i2 := k'.sep i1 i2 d1 d2 a r2 t2 (vmk ew1) (vmk ew2)
                  subst this
                  rw [r1] at t1; cases t1; rfl
                · rw [t1] at e4
                  obtain ⟨sc, esc⟩ : ∃ sc, εc[i1]? = some sc := by
                    have hi : i1 < rs'.length := (List.getElem?_eq_some_iff.mp r1).1
                    exact ⟨_, List.getElem?_eq_getElem (by rw [hlc]; exact hi)⟩
                  obtain ⟨m, r, er, ec⟩ := cSls_get e2 esc
                  rw [r1] at er; cases er
                  have hc : ∃ d0, ε2[j1]? = some (.own d0) := by
                    cases m with
                    | false => cases ec
                    | true =>
                      simp only [cSl] at ec
                      split at ec
                      · rename_i d0 h0; exact ⟨d0, h0⟩
                      · cases ec
                  obtain ⟨d0, h0⟩ := hc
                  have : j1 = j2 := k2.sep j1 j2 d0 d2 a h0 e4 s3 s4
                  subst this
                  exact (t2 i1 _ r1 r2).elim
              · rw [r1] at e3
                rcases upR_get (rs := rs') (ss := εc') (ε := ε2) j2 with ⟨i2, u2, t1, t2, t3⟩ | ⟨t1, t2⟩
                · rw [t3 (rng t1)] at e4
                  cases e4
                  obtain ⟨sc, esc⟩ : ∃ sc, εc[i2]? = some sc := by
                    have hi : i2 < rs'.length := (List.getElem?_eq_some_iff.mp t1).1
                    exact ⟨_, List.getElem?_eq_getElem (by rw [hlc]; exact hi)⟩
                  obtain ⟨m, r, er, ec⟩ := cSls_get e2 esc
                  rw [t1] at er; cases er
                  have hc : ∃ d0, ε2[j2]? = some (.own d0) := by
                    cases m with
                    | false => cases ec
                    | true =>
                      simp only [cSl] at ec
                      split at ec
                      · rename_i d0 h0; exact ⟨d0, h0⟩
                      · cases ec
                  obtain ⟨d0, h0⟩ := hc
                  have : j1 = j2 := k2.sep j1 j2 d1 d0 a e3 h0 s3 s4
                  subst this
                  exact (r2 i2 _ t1 t2).elim
                · rw [t1] at e4
                  exact k2.sep j1 j2 d1 d2 a e3 e4 s3 s4
          have on' : ∀ a, OwnAt σ (upR rs' εc' ε2) a → OwnAt (vs.map some) εc' a ∨ OwnAt σ ε2 a := fun a ⟨j, d, e, s⟩ => by
            rcases upR_get (rs := rs') (ss := εc') (ε := ε2) j with ⟨i, u, r1, r2, r3⟩ | ⟨r1, r2⟩
            · rw [r3 (rng r1)] at e
              cases e
              obtain ⟨w, ew, sw⟩ := slot r1
              rw [s] at sw; cases sw
              exact .inl ⟨i, d, r2, vmk ew⟩
            · rw [r1] at e
              exact .inr ⟨j, d, e, s⟩
          refine ⟨kO, ⟨x2.fs.trans x'.fs, fun a o h n => x'.hk a o (x2.hk a o h n) fun z => ?_, fun a h => x2.ht a (x'.ht a h), fun a h => ?_, fun a h => ?_⟩, on'⟩
          · rcases own3 a z with y | y
            · exact n y
            · rw [h] at y; cases y
          · rcases x'.fn a h with z | z | z
            · exact x2.fn a z
            · exact .inr (.inl (x2.ht a z))
            · exact (own3 a z).elim (fun y => .inr (.inr y)) fun y => .inr (.inl y)
          · rcases on' a h with z | z
            · rcases x'.on a z with y | y
              · exact own3 a y
              · exact .inr (x2.ht a y)
            · exact x2.on a z
        refine ⟨by rw [hlen]; exact (by
          have := q1.length
          rw [← hn, ← this, hlen]), F2, εc, kc, ?_⟩
        cases e3 : φ εc with
        | bad => simp only [e3] at p; exact p.elim
        | exn c εc' =>
          simp only [e3] at p
          intro F' H' k' x'
          obtain ⟨kO, xO, _⟩ := back k' x'
          exact p F' H' kO xO
        | ok r εc' =>
          simp only [e3] at p
          intro F' H' k' x' v hv hnew
          obtain ⟨kO, xO, on'⟩ := back k' x'
          cases r with
          | fz d => exact p F' H' kO xO v hv (by simp [newA])
          | new d =>
            obtain ⟨a, o, rfl, f, g, q, n⟩ := hv
            have ha : H1 a = none := hnew a (by simp [newA])
            refine p F' H' kO xO (.ref a) ⟨a, o, rfl, f, g, q, fun z => ?_⟩ fun b hb => ?_
            · rcases on' a z with y | y
              · exact n y
              · obtain ⟨j, d', ej, sj⟩ := y
                obtain ⟨b, o', s, _, g', _⟩ := k2.own j d' ej
                rw [sj] at s; cases s
                rw [ha] at g'; cases g'
            · have eb : b = a := by simpa [newA] using hb
              subst eb
              exact x2.ht _ ha
          | «at» i =>
            have p : Po K T W F0 H0 σ ε0 (match (match rs'[i]? with | some (.at j) => some (R.at j) | _ => none) with | some r' => .ok r' (upR rs' εc' ε2) | none => .bad) (SE K T H0 σ Q) := p
            cases er : rs'[i]? with
            | none => rw [er] at p; exact p.elim
            | some r0 =>
              rw [er] at p
              cases r0 with
              | fz d => exact p.elim
              | new d => exact p.elim
              | «at» j =>
                obtain ⟨w, ew, hw⟩ := q2.get er
                have hv' : (vs.map some)[i]? = some (some v) := hv
                obtain ⟨u, eu, hu⟩ := vget hv'
                cases eu
                rw [hu] at ew; cases ew
                exact p F' H' kO xO v hw (by simp [newA])
    · rw [if_neg hnd] at p; exact p.elim
end

/-! ### the rules -/
section
variable {X : Cx} {T : Tab} {W : WX} {e : Expr} {es : List Expr} {fs : En → O (List R)} {pos p : Pos} {k n : Nat} {f : Addr} {fd : FuncData} {ps : List Str} {x : Str} {φ : En → O R}
theorem len_of {K : PySem.W.Frag} {es : List Expr} {fs : En → O (List R)} (h : DA X T W es fs) : True := trivial
/-- a call whose answer is flat: nothing of the caller's is changed -/
theorem de_callB (F : FnOk X.prog X.w X.K X.mg X.base (L2.CX X.prog X.w) k f fd ps (spD X.K T n φ)) (hr : Room k X.A) (hg : Gl X x) (hm : X.mg x = some (.ref f)) (hk : PySem.W.keepIn X.K (.ref f) = true) (hb : Binds X.K fd ps []) (tk : Takes X W)
    (ha : DA X T W (e :: es) fs) (hn : ∀ ε rs ε', fs ε = .ok rs ε' → rs.length = n) (hdb : (x == ("__debug__" : Str)) = false := by decide) (he : starEach (e :: es) X.env = (false, eval e X.env) :: starEach es X.env := by rfl) (hpl : (backTo pos (starEach es X.env)).any (·.1) = false := by rfl) :
    DE X T W (.Call (.Name x p) (e :: es) [] pos) (dCallB φ fs) := by
  refine PE.imp (pe_callS F hr hg hm hk hb (fun σ => passAt tk σ) ha hdb he hpl) fun σ H Q q => ?_
  obtain ⟨F, ε, k, p⟩ := q
  show tDA X.K T W fs σ H fun vs H1 => spD X.K T n φ vs H1 Q (WE W σ)
  have p : Po X.K T W F H σ ε ((fs ε).bind fun rs ε1 => vCallB φ ε1 rs) (SE X.K T H σ Q) := p
  refine ⟨F, ε, k, ?_⟩
  cases e1 : fs ε with
  | bad => rw [e1] at p; exact p
  | exn c ε1 => rw [e1] at p; exact p
  | ok rs ε1 =>
    rw [e1] at p
    exact fun F1 H1 k1 x1 vs hv hn' nd => callB_use (hn _ _ _ e1) k1 x1 hv p
theorem de_call (ms : List Bool) (F : FnOk X.prog X.w X.K X.mg X.base (L2.CX X.prog X.w) k f fd ps (spD X.K T n φ)) (hr : Room k X.A) (hg : Gl X x) (hm : X.mg x = some (.ref f)) (hk : PySem.W.keepIn X.K (.ref f) = true) (hb : Binds X.K fd ps []) (tk : Takes X W)
    (ha : DA X T W (e :: es) fs) (hn : ∀ ε rs ε', fs ε = .ok rs ε' → rs.length = n) (hdb : (x == ("__debug__" : Str)) = false := by decide) (he : starEach (e :: es) X.env = (false, eval e X.env) :: starEach es X.env := by rfl) (hpl : (backTo pos (starEach es X.env)).any (·.1) = false := by rfl) :
    DE X T W (.Call (.Name x p) (e :: es) [] pos) (dCall φ ms fs) := by
  refine PE.imp (pe_callS F hr hg hm hk hb (fun σ => passAt tk σ) ha hdb he hpl) fun σ H Q q => ?_
  obtain ⟨F, ε, k, p⟩ := q
  show tDA X.K T W fs σ H fun vs H1 => spD X.K T n φ vs H1 Q (WE W σ)
  have p : Po X.K T W F H σ ε ((fs ε).bind fun rs ε1 => vCall φ ms ε1 rs) (SE X.K T H σ Q) := p
  refine ⟨F, ε, k, ?_⟩
  cases e1 : fs ε with
  | bad => rw [e1] at p; exact p
  | exn c ε1 => rw [e1] at p; exact p
  | ok rs ε1 =>
    rw [e1] at p
    exact fun F1 H1 k1 x1 vs hv hn' nd => call_use (hn _ _ _ e1) k1 x1 hv hn' nd p
/-- how many arguments -/
def Len (fs : En → O (List R)) (n : Nat) : Prop := ∀ ε rs ε', fs ε = .ok rs ε' → rs.length = n
theorem len_nil : Len dNil 0 := fun ε rs ε' e => by cases e; rfl
theorem len_cons {f : En → O R} {g : En → O (List R)} {n : Nat} (h : Len g n) : Len (dCons f g) (n + 1) := fun ε rs ε' e => by
  unfold dCons at e
  cases e1 : f ε with
  | bad => rw [e1] at e; cases e
  | exn c ε1 => rw [e1] at e; cases e
  | ok r ε1 =>
    rw [e1] at e
    have e : (g ε1).bind (fun rs ε2 => O.ok (r :: rs) ε2) = .ok rs ε' := e
    cases e2 : g ε1 with
    | bad => rw [e2] at e; cases e
    | exn c ε2 => rw [e2] at e; cases e
    | ok rs' ε2 =>
      rw [e2] at e
      cases e
      rw [List.length_cons, h _ _ _ e2]
end
end DL

/-! DL8: iterators over lists and tuples in any mix: enumerate, zip of two and of three (at the hand layer's level) -/
namespace DL
open PySem PySem.Spec PyProof.Rows L2

inductive Kd where
  | l | t
def kIt (k : Kd) (h : Heap) (it a : Addr) (i : Nat) : Prop := match k with
  | .l => h.IsListIter it a i
  | .t => h.IsTupleIter it a i
def kAt (k : Kd) (h : Heap) (a : Addr) (items : Array Value) : Prop := match k with
  | .l => h.IsList a items
  | .t => h.IsTuple a items
def kSq (k : Kd) (K : PySem.W.Frag) (H : Hp) (a : Addr) (xs : List V) : Prop := match k with
  | .l => SqL K H a xs
  | .t => SqT K H a xs
def kOb (k : Kd) (a : Addr) : Obj := match k with
  | .l => { cls := .type "list_iterator", data := .fields #[.ref a, .int 0 0] }
  | .t => { cls := .type "tuple_iterator", data := .fields #[.ref a, .int 0 0] }
theorem kDraws {prog : Program} {w : World} {A : Around} (k : Kd) (hh : A.handled = none) (it a : Addr) (hne : a ≠ it) (items : Array Value) :
    Draws prog w A it [it, a] items.size (fun i v => items[i]? = some v) (fun i h => kIt k h it a i ∧ kAt k h a items) := by
  cases k with
  | l => exact Draws.list hh it a hne items
  | t => exact Draws.tuple hh it a hne items
theorem kBegins (k : Kd) (a : Addr) (items : Array Value) : Begins (.ref a) (kOb k a) (fun h => kAt k h a items) := by
  cases k with
  | l => exact begins_list a items
  | t => exact begins_tuple a items
theorem kIt_new {k : Kd} {h : Heap} {it a : Addr} (e : h.get? it = some (kOb k a)) : kIt k h it a 0 := by
  cases k with
  | l => exact ⟨_, e, rfl, rfl⟩
  | t => exact ⟨_, e, rfl, rfl⟩
theorem kIt_at {k : Kd} {h h' : Heap} {it a : Addr} {i : Nat} (x : kIt k h it a i) (e : ∀ o, h.get? it = some o → h'.get? it = some o) : kIt k h' it a i := by
  cases k with
  | l => exact Heap.IsListIter.at x e
  | t => exact Heap.IsTupleIter.at x e
theorem kIt_obj {k : Kd} {h : Heap} {it a : Addr} {i : Nat} (x : kIt k h it a i) : ∃ o, h.get? it = some o ∧ ∀ v, o.data ≠ .cell v := by
  cases k with
  | l => obtain ⟨o, e, c, d⟩ := x; exact ⟨o, e, fun v q => by rw [d] at q; cases q⟩
  | t => obtain ⟨o, e, c, d⟩ := x; exact ⟨o, e, fun v q => by rw [d] at q; cases q⟩
theorem kInv {X : Cx} {pins : List (Addr × Obj)} {σ : L2.St} {H : Hp} {s : Shared} {k : Kd} {a : Addr} {xs : List V} (I : Inv X pins σ H s) (h : kSq k X.K H a xs) : ∃ its : List Value, Vals xs its ∧ kAt k s.heap a its.toArray ∧ a < s.heap.objs.size := by
  cases k with
  | l =>
    obtain ⟨its, r, p, _⟩ := I.list h
    exact ⟨its, r, p.isList, p.lt⟩
  | t =>
    obtain ⟨its, r, p, _⟩ := I.tuple h
    exact ⟨its, r, show s.heap.IsTuple a its.toArray from p, p.lt⟩
theorem kInj {X : Cx} {pins : List (Addr × Obj)} {σ : L2.St} {H : Hp} {s : Shared} {k : Kd} {a : Addr} {xs ys : List V} (I : Inv X pins σ H s) (h : kSq k X.K H a xs) (h' : kSq k X.K H a ys) : xs = ys := by
  cases k with
  | l => exact I.list_inj h h'
  | t => exact I.tuple_inj h h'

/-! ### enumerate -/
def ItE (K : PySem.W.Frag) (k : Kd) (a : Addr) : It :=
  ⟨fun i H => ∃ (xs : List V) (x : V), kSq k K H a xs ∧ xs[i]? = some x, fun i H v H' => ∃ T x o, v = .ref T ∧ H T = none ∧ o.dict = none ∧ H' = upd H T (.frz o (.tup [.int (i : Nat), x])) ∧ ∀ xs, kSq k K H a xs → xs[i]? = some x, fun i H => ∃ xs : List V, kSq k K H a xs ∧ xs.length = i⟩
theorem turn_enumK {P : Program} {w : World} {K : PySem.W.Frag} {elts : List Expr} {kk : Nat} {tpos : Pos} (k : Kd) (a e it : Addr) (h1 : e ≠ it) (h2 : a ≠ it) (h3 : e ≠ a) :
    Turn P w K (.Tuple elts kk tpos) (ItE K k a) [e, it] e (fun i h => (∃ old, IsEnum h e it ((i : Nat) : Int) old) ∧ kIt k h it a i) where
  mem := by simp
  obj := fun i h st b hb => by
    obtain ⟨⟨old, he⟩, hi⟩ := st
    have e' : b = e ∨ b = it := by simpa using hb
    rcases e' with z | z
    · rw [z]; exact ⟨_, he, fun v q => nomatch q⟩
    · rw [z]; exact kIt_obj hi
  keep := fun i h h' st k => let ⟨⟨old, he⟩, hi⟩ := st; ⟨⟨old, k e (by simp) _ he⟩, kIt_at hi fun o q => k it (by simp) o q⟩
  item := by
    intro X hP hw hK hc i pins s σ H E I hf st hg
    subst hP hw hK
    obtain ⟨⟨old, he⟩, hit⟩ := st
    obtain ⟨xs, x, hq, hx⟩ := hg
    obtain ⟨its, rv, p, hal⟩ := kInv I hq
    obtain ⟨u, hu, ru⟩ := rv.get hx
    have hel : e < s.heap.objs.size := Heap.lt_size he
    have hil : it < s.heap.objs.size := by obtain ⟨_, q, _⟩ := kIt_obj hit; exact Heap.lt_size q
    have hlt : i < its.toArray.size := by simpa using (List.getElem?_eq_some_iff.mp hu).1
    refine wpAny_pyNext_enum_itemC (kDraws k (by show X.A.in1.handled = none; exact I.ok.hd hc) it a h2 its.toArray) he ⟨hit, p⟩ hlt h1 (by simp [h1, h3]) fun x' h' tk hx' ho hit' hT hsz hk => ?_
    have eu : x' = u := by
      have : its.toArray[i]? = some u := by simpa using hu
      rw [this] at hx'; exact (Option.some.inj hx').symm
    subst eu
    refine ⟨_, rfl, wpAny_letOwnedTupleGo_enum (s := { s with heap := h', toks := tk + 1 }) ho fun h'' he' sb => ?_⟩
    have hT2 : h''.get? s.heap.objs.size = some { cls := .type "tuple", data := .seq #[.int i tk, x'] } := (sb.2 _ (Nat.ne_of_gt hel)).trans hT
    have new : ObjOk X.prog X.w (upd H s.heap.objs.size (.frz { cls := .type "tuple", data := .seq #[.int i tk, x'] } (.tup [.int (i : Nat), x]))) h'' s.heap.objs.size (.frz { cls := .type "tuple", data := .seq #[.int i tk, x'] } (.tup [.int (i : Nat), x])) :=
      ⟨hT2, by show 2 ≤ sizeLine; decide, [.int i tk, x'], .cons ⟨_, rfl⟩ (.cons ru .nil), ⟨_, hT2, rfl, _, rfl⟩⟩
    have I1 : Inv X pins σ (upd H s.heap.objs.size (.frz { cls := .type "tuple", data := .seq #[.int i tk, x'] } (.tup [.int (i : Nat), x]))) { s with heap := h'', toks := tk + 1 } :=
      I.turnedNew (ch := [e, it]) (fun b ob hb q => (sb.2 b (fun z => hb (by simp [z]))).trans (hk b ob (fun z => hb (by simp [z])) (fun z => hb (by simp [z])) q)) hf (Nat.le_refl _) new
    refine ⟨.ref s.heap.objs.size, _, I1, rfl, ⟨_, x, _, rfl, I.hok.fresh (Nat.le_refl _), rfl, rfl, fun ys hy => by rw [kInj I hy hq]; exact hx⟩, ⟨⟨x', ?_⟩, kIt_at hit'.1 fun o q => (sb.2 it (Ne.symm h1)).trans q⟩, fun b hb => ?_⟩
    · have e1 : ((i + 1 : Nat) : Int) = (i : Int) + 1 := by omega
      rw [e1]; exact he'
    · have hb' : b < s.heap.objs.size := by
        have e' : b = e ∨ b = it := by simpa using hb
        rcases e' with z | z
        · rw [z]; exact hel
        · rw [z]; exact hil
      rw [upd_ne (Nat.ne_of_lt hb')]
      exact (hf b hb).1
  done := by
    intro X hP hw hK hc i pins s σ H E I hf st hg
    subst hP hw hK
    obtain ⟨⟨old, he⟩, hit⟩ := st
    obtain ⟨xs, hq, hx⟩ := hg
    obtain ⟨its, rv, p, _⟩ := kInv I hq
    have hl : its.toArray.size = i := by rw [List.size_toArray, ← rv.length]; exact hx
    exact wpAny_pyNext_enum_endD (kDraws k (by show X.A.in1.handled = none; exact I.ok.hd hc) it a h2 its.toArray) he (by rw [hl]; exact ⟨hit, p⟩) fun h' eb => ⟨rfl, I.turnedL (t' := s.toks) (ch := [e, it]) (fun b o hb q => eb b o (fun z => hb (by simp [z])) q) hf⟩
  self := fun A i s Q E st h => let ⟨⟨_, he⟩, _⟩ := st; wpAny_pyIter_enum he h

/-! ### zip of two -/
def ItZ2 (K : PySem.W.Frag) (k1 k2 : Kd) (a b : Addr) : It :=
  ⟨fun i H => ∃ (xs ys : List V) (x y : V), kSq k1 K H a xs ∧ kSq k2 K H b ys ∧ xs[i]? = some x ∧ ys[i]? = some y,
    fun i H v H' => ∃ T x y o, v = .ref T ∧ H T = none ∧ o.dict = none ∧ H' = upd H T (.frz o (.tup [x, y])) ∧ (∀ xs, kSq k1 K H a xs → xs[i]? = some x) ∧ ∀ ys, kSq k2 K H b ys → ys[i]? = some y,
    fun i H => ∃ xs ys : List V, kSq k1 K H a xs ∧ kSq k2 K H b ys ∧ i = min xs.length ys.length⟩
theorem turn_zip2K {P : Program} {w : World} {K : PySem.W.Frag} {elts : List Expr} {kk : Nat} {tpos : Pos} (k1 k2 : Kd) {a b z TI TO i1 i2 : Addr} (S : ZipSep2 z TI TO i1 i2 [i1, a] [i2, b]) (n1 : a ≠ i1) (n2 : b ≠ i2) :
    Turn P w K (.Tuple elts kk tpos) (ItZ2 K k1 k2 a b) [z, TI, TO, i1, i2] z (fun i h => IsZip h z TI TO .none ∧ IsTupOf2 h TI (.ref i1) (.ref i2) ∧ (∃ x y, IsTupOf2 h TO x y) ∧ kIt k1 h i1 a i ∧ kIt k2 h i2 b i) where
  mem := by simp
  obj := fun i h st c hc => by
    obtain ⟨hz, hTI, ⟨x, y, hTO⟩, h1, h2⟩ := st
    have e' : c = z ∨ c = TI ∨ c = TO ∨ c = i1 ∨ c = i2 := by simpa using hc
    rcases e' with q | q | q | q | q
    · rw [q]; exact ⟨_, hz, fun v q => nomatch q⟩
    · rw [q]; exact ⟨_, hTI, fun v q => nomatch q⟩
    · rw [q]; exact ⟨_, hTO, fun v q => nomatch q⟩
    · rw [q]; exact kIt_obj h1
    · rw [q]; exact kIt_obj h2
  keep := fun i h h' st k => by
    obtain ⟨hz, hTI, ⟨x, y, hTO⟩, h1, h2⟩ := st
    exact ⟨k z (by simp) _ hz, k TI (by simp) _ hTI, ⟨x, y, k TO (by simp) _ hTO⟩, kIt_at h1 fun o q => k i1 (by simp) o q, kIt_at h2 fun o q => k i2 (by simp) o q⟩
  item := by
    intro X hP hw hK hc i pins s σ H E I hf st hg
    subst hP hw hK
    obtain ⟨hz, hTI, ⟨x0, y0, hTO⟩, h1, h2⟩ := st
    obtain ⟨xs, ys, x, y, hqx, hqy, hx, hy⟩ := hg
    obtain ⟨its, rv, p, hal⟩ := kInv I hqx
    obtain ⟨its2, rv2, p2, hbl⟩ := kInv I hqy
    obtain ⟨u, hu, ru⟩ := rv.get hx
    obtain ⟨u2, hu2, ru2⟩ := rv2.get hy
    have hzl : z < s.heap.objs.size := Heap.lt_size hz
    have hlt : i < its.toArray.size := by simpa using (List.getElem?_eq_some_iff.mp hu).1
    have hlt2 : i < its2.toArray.size := by simpa using (List.getElem?_eq_some_iff.mp hu2).1
    have hh : X.A.in1.handled = none := I.ok.hd hc
    refine wpAny_pyNext_zipD2_item S (kDraws k1 hh i1 a n1 its.toArray) (kDraws k2 hh i2 b n2 its2.toArray) hz hTI hTO ⟨h1, p⟩ ⟨h2, p2⟩ hlt hlt2 fun x' y' h' tk hx' hy' z' TO' h1' h2' hT hsz hk => ?_
    have eu : x' = u := by
      have : its.toArray[i]? = some u := by simpa using hu
      rw [this] at hx'; exact (Option.some.inj hx').symm
    have eu2 : y' = u2 := by
      have : its2.toArray[i]? = some u2 := by simpa using hu2
      rw [this] at hy'; exact (Option.some.inj hy').symm
    subst eu eu2
    refine ⟨_, rfl, wpAny_letOwnedTupleGo_zip (s := { s with heap := h', toks := tk }) z' fun h'' z'' sb => ?_⟩
    have hT2 : h''.get? s.heap.objs.size = some { cls := .type "tuple", data := .seq #[x', y'] } := (sb.2 _ (Nat.ne_of_gt hzl)).trans hT
    have new : ObjOk X.prog X.w (upd H s.heap.objs.size (.frz { cls := .type "tuple", data := .seq #[x', y'] } (.tup [x, y]))) h'' s.heap.objs.size (.frz { cls := .type "tuple", data := .seq #[x', y'] } (.tup [x, y])) :=
      ⟨hT2, by show 2 ≤ sizeLine; decide, [x', y'], .cons ru (.cons ru2 .nil), ⟨_, hT2, rfl, _, rfl⟩⟩
    have I1 : Inv X pins σ (upd H s.heap.objs.size (.frz { cls := .type "tuple", data := .seq #[x', y'] } (.tup [x, y]))) { s with heap := h'', toks := tk } :=
      I.turnedNew (ch := [z, TI, TO, i1, i2]) (fun c o hb q => (sb.2 c (fun q' => hb (by simp [q']))).trans (hk c o (fun q' => hb (by simp [q'])) (fun q' => hb (by simp [q'])) (fun q' => hb (by simp [q'])) (fun q' => hb (by simp [q'])) q)) hf (Nat.le_refl _) new
    refine ⟨.ref s.heap.objs.size, _, I1, rfl, ⟨_, x, y, _, rfl, I.hok.fresh (Nat.le_refl _), rfl, rfl, fun l hl => by rw [kInj I hl hqx]; exact hx, fun l hl => by rw [kInj I hl hqy]; exact hy⟩, ⟨z'', ?_, ⟨x', y', ?_⟩, ?_, ?_⟩, fun c hcm => ?_⟩
    · exact (sb.2 _ S.TIz).trans (hk _ _ S.TIz S.TITO S.TIi1 S.TIi2 hTI)
    · exact (sb.2 _ S.TOz).trans TO'
    · exact kIt_at h1'.1 fun o q => (sb.2 _ S.zi1.symm).trans q
    · exact kIt_at h2'.1 fun o q => (sb.2 _ S.zi2.symm).trans q
    · have hlt : c < s.heap.objs.size := by
        have e' : c = z ∨ c = TI ∨ c = TO ∨ c = i1 ∨ c = i2 := by simpa using hcm
        rcases e' with q | q | q | q | q
        · rw [q]; exact hzl
        · rw [q]; exact Heap.lt_size hTI
        · rw [q]; exact Heap.lt_size hTO
        · rw [q]; obtain ⟨_, e1, _⟩ := kIt_obj h1; exact Heap.lt_size e1
        · rw [q]; obtain ⟨_, e2, _⟩ := kIt_obj h2; exact Heap.lt_size e2
      rw [upd_ne (Nat.ne_of_lt hlt)]
      exact (hf c hcm).1
  done := by
    intro X hP hw hK hc i pins s σ H E I hf st hg
    subst hP hw hK
    obtain ⟨hz, hTI, ⟨x0, y0, hTO⟩, h1, h2⟩ := st
    obtain ⟨xs, ys, hqx, hqy, hend⟩ := hg
    obtain ⟨its, rv, p, _⟩ := kInv I hqx
    obtain ⟨its2, rv2, p2, _⟩ := kInv I hqy
    have l1 : its.toArray.size = xs.length := by rw [List.size_toArray, ← rv.length]
    have l2 : its2.toArray.size = ys.length := by rw [List.size_toArray, ← rv2.length]
    have hh : X.A.in1.handled = none := I.ok.hd hc
    exact wpAny_pyNext_zipD2_end S (kDraws k1 hh i1 a n1 its.toArray) (kDraws k2 hh i2 b n2 its2.toArray) hz hTI hTO ⟨h1, p⟩ ⟨h2, p2⟩ (by omega) (by omega) (by omega) fun h' tk hk => ⟨rfl, I.turnedL (t' := tk) (ch := [z, TI, TO, i1, i2]) (fun c o hb q =>
      hk c o (fun q' => hb (by simp [q'])) (fun q' => hb (by simp [q'])) (fun q' => hb (by simp [q'])) (fun q' => hb (by simp [q'])) q) hf⟩
  self := fun A i s Q E st h => wpAny_pyIter_zip st.1 h

/-! ### zip of three -/
def ItZ3 (K : PySem.W.Frag) (k1 k2 k3 : Kd) (a b c : Addr) : It :=
  ⟨fun i H => ∃ (xs ys zs : List V) (x y u : V), kSq k1 K H a xs ∧ kSq k2 K H b ys ∧ kSq k3 K H c zs ∧ xs[i]? = some x ∧ ys[i]? = some y ∧ zs[i]? = some u,
    fun i H v H' => ∃ T x y u o, v = .ref T ∧ H T = none ∧ o.dict = none ∧ H' = upd H T (.frz o (.tup [x, y, u])) ∧ (∀ xs, kSq k1 K H a xs → xs[i]? = some x) ∧ (∀ ys, kSq k2 K H b ys → ys[i]? = some y) ∧ ∀ zs, kSq k3 K H c zs → zs[i]? = some u,
    fun i H => ∃ xs ys zs : List V, kSq k1 K H a xs ∧ kSq k2 K H b ys ∧ kSq k3 K H c zs ∧ i = min (min xs.length ys.length) zs.length⟩
theorem turn_zip3K {P : Program} {w : World} {K : PySem.W.Frag} {elts : List Expr} {kk : Nat} {tpos : Pos} (k1 k2 k3 : Kd) {a b c0 z TI TO i1 i2 i3 : Addr} (S : ZipSep3 z TI TO i1 i2 i3 [i1, a] [i2, b] [i3, c0]) (n1 : a ≠ i1) (n2 : b ≠ i2) (n3 : c0 ≠ i3) :
    Turn P w K (.Tuple elts kk tpos) (ItZ3 K k1 k2 k3 a b c0) [z, TI, TO, i1, i2, i3] z (fun i h => IsZip h z TI TO .none ∧ IsTupOf3 h TI (.ref i1) (.ref i2) (.ref i3) ∧ (∃ x y u, IsTupOf3 h TO x y u) ∧ kIt k1 h i1 a i ∧ kIt k2 h i2 b i ∧ kIt k3 h i3 c0 i) where
  mem := by simp
  obj := fun i h st c hc => by
    obtain ⟨hz, hTI, ⟨x, y, u, hTO⟩, h1, h2, h3⟩ := st
    have e' : c = z ∨ c = TI ∨ c = TO ∨ c = i1 ∨ c = i2 ∨ c = i3 := by simpa using hc
    rcases e' with q | q | q | q | q | q
    · rw [q]; exact ⟨_, hz, fun v q => nomatch q⟩
    · rw [q]; exact ⟨_, hTI, fun v q => nomatch q⟩
    · rw [q]; exact ⟨_, hTO, fun v q => nomatch q⟩
    · rw [q]; exact kIt_obj h1
    · rw [q]; exact kIt_obj h2
    · rw [q]; exact kIt_obj h3
  keep := fun i h h' st k => by
    obtain ⟨hz, hTI, ⟨x, y, u, hTO⟩, h1, h2, h3⟩ := st
    exact ⟨k z (by simp) _ hz, k TI (by simp) _ hTI, ⟨x, y, u, k TO (by simp) _ hTO⟩, kIt_at h1 fun o q => k i1 (by simp) o q, kIt_at h2 fun o q => k i2 (by simp) o q, kIt_at h3 fun o q => k i3 (by simp) o q⟩
  item := by
    intro X hP hw hK hc i pins s σ H E I hf st hg
    subst hP hw hK
    obtain ⟨hz, hTI, ⟨x0, y0, w0, hTO⟩, h1, h2, h3⟩ := st
    obtain ⟨xs, ys, zs, x, y, v, hqx, hqy, hqz, hx, hy, hv⟩ := hg
    obtain ⟨its, rv, p, hal⟩ := kInv I hqx
    obtain ⟨its2, rv2, p2, hbl⟩ := kInv I hqy
    obtain ⟨its3, rv3, p3, hcl⟩ := kInv I hqz
    obtain ⟨u, hu, ru⟩ := rv.get hx
    obtain ⟨u2, hu2, ru2⟩ := rv2.get hy
    obtain ⟨u3, hu3, ru3⟩ := rv3.get hv
    have hzl : z < s.heap.objs.size := Heap.lt_size hz
    have hlt : i < its.toArray.size := by simpa using (List.getElem?_eq_some_iff.mp hu).1
    have hlt2 : i < its2.toArray.size := by simpa using (List.getElem?_eq_some_iff.mp hu2).1
    have hlt3 : i < its3.toArray.size := by simpa using (List.getElem?_eq_some_iff.mp hu3).1
    have hh : X.A.in1.handled = none := I.ok.hd hc
    refine wpAny_pyNext_zipD3_item S (kDraws k1 hh i1 a n1 its.toArray) (kDraws k2 hh i2 b n2 its2.toArray) (kDraws k3 hh i3 c0 n3 its3.toArray) hz hTI hTO ⟨h1, p⟩ ⟨h2, p2⟩ ⟨h3, p3⟩ hlt hlt2 hlt3 fun x' y' v' h' tk hx' hy' hv' z' TO' h1' h2' h3' hT hsz hk => ?_
    have eu : x' = u := by
      have : its.toArray[i]? = some u := by simpa using hu
      rw [this] at hx'; exact (Option.some.inj hx').symm
    have eu2 : y' = u2 := by
      have : its2.toArray[i]? = some u2 := by simpa using hu2
      rw [this] at hy'; exact (Option.some.inj hy').symm
    have eu3 : v' = u3 := by
      have : its3.toArray[i]? = some u3 := by simpa using hu3
      rw [this] at hv'; exact (Option.some.inj hv').symm
    subst eu eu2 eu3
    refine ⟨_, rfl, wpAny_letOwnedTupleGo_zip (s := { s with heap := h', toks := tk }) z' fun h'' z'' sb => ?_⟩
    have hT2 : h''.get? s.heap.objs.size = some { cls := .type "tuple", data := .seq #[x', y', v'] } := (sb.2 _ (Nat.ne_of_gt hzl)).trans hT
    have new : ObjOk X.prog X.w (upd H s.heap.objs.size (.frz { cls := .type "tuple", data := .seq #[x', y', v'] } (.tup [x, y, v]))) h'' s.heap.objs.size (.frz { cls := .type "tuple", data := .seq #[x', y', v'] } (.tup [x, y, v])) :=
      ⟨hT2, by show 3 ≤ sizeLine; decide, [x', y', v'], .cons ru (.cons ru2 (.cons ru3 .nil)), ⟨_, hT2, rfl, _, rfl⟩⟩
    have I1 : Inv X pins σ (upd H s.heap.objs.size (.frz { cls := .type "tuple", data := .seq #[x', y', v'] } (.tup [x, y, v]))) { s with heap := h'', toks := tk } :=
      I.turnedNew (ch := [z, TI, TO, i1, i2, i3]) (fun c o hb q => (sb.2 c (fun q' => hb (by simp [q']))).trans (hk c o (fun q' => hb (by simp [q'])) (fun q' => hb (by simp [q'])) (fun q' => hb (by simp [q'])) (fun q' => hb (by simp [q'])) (fun q' => hb (by simp [q'])) q)) hf (Nat.le_refl _) new
    refine ⟨.ref s.heap.objs.size, _, I1, rfl, ⟨_, x, y, v, _, rfl, I.hok.fresh (Nat.le_refl _), rfl, rfl, fun l hl => by rw [kInj I hl hqx]; exact hx, fun l hl => by rw [kInj I hl hqy]; exact hy, fun l hl => by rw [kInj I hl hqz]; exact hv⟩, ⟨z'', ?_, ⟨x', y', v', ?_⟩, ?_, ?_, ?_⟩, fun c hcm => ?_⟩
    · exact (sb.2 _ S.TIz).trans (hk _ _ S.TIz S.TITO S.TIi1 S.TIi2 S.TIi3 hTI)
    · exact (sb.2 _ S.TOz).trans TO'
    · exact kIt_at h1'.1 fun o q => (sb.2 _ S.zi1.symm).trans q
    · exact kIt_at h2'.1 fun o q => (sb.2 _ S.zi2.symm).trans q
    · exact kIt_at h3'.1 fun o q => (sb.2 _ S.zi3.symm).trans q
    · have hlt : c < s.heap.objs.size := by
        have e' : c = z ∨ c = TI ∨ c = TO ∨ c = i1 ∨ c = i2 ∨ c = i3 := by simpa using hcm
        rcases e' with q | q | q | q | q | q
        · rw [q]; exact hzl
        · rw [q]; exact Heap.lt_size hTI
        · rw [q]; exact Heap.lt_size hTO
        · rw [q]; obtain ⟨_, e1, _⟩ := kIt_obj h1; exact Heap.lt_size e1
        · rw [q]; obtain ⟨_, e2, _⟩ := kIt_obj h2; exact Heap.lt_size e2
        · rw [q]; obtain ⟨_, e2, _⟩ := kIt_obj h3; exact Heap.lt_size e2
      rw [upd_ne (Nat.ne_of_lt hlt)]
      exact (hf c hcm).1
  done := by
    intro X hP hw hK hc i pins s σ H E I hf st hg
    subst hP hw hK
    obtain ⟨hz, hTI, ⟨x0, y0, w0, hTO⟩, h1, h2, h3⟩ := st
    obtain ⟨xs, ys, zs, hqx, hqy, hqz, hend⟩ := hg
    obtain ⟨its, rv, p, _⟩ := kInv I hqx
    obtain ⟨its2, rv2, p2, _⟩ := kInv I hqy
    obtain ⟨its3, rv3, p3, _⟩ := kInv I hqz
    have l1 : its.toArray.size = xs.length := by rw [List.size_toArray, ← rv.length]
    have l2 : its2.toArray.size = ys.length := by rw [List.size_toArray, ← rv2.length]
    have l3 : its3.toArray.size = zs.length := by rw [List.size_toArray, ← rv3.length]
    have hh : X.A.in1.handled = none := I.ok.hd hc
    exact wpAny_pyNext_zipD3_end S (kDraws k1 hh i1 a n1 its.toArray) (kDraws k2 hh i2 b n2 its2.toArray) (kDraws k3 hh i3 c0 n3 its3.toArray) hz hTI hTO ⟨h1, p⟩ ⟨h2, p2⟩ ⟨h3, p3⟩ (by omega) (by omega) (by omega) (by omega) fun h' tk hk => ⟨rfl, I.turnedL (t' := tk) (ch := [z, TI, TO, i1, i2, i3]) (fun c o hb q =>
      hk c o (fun q' => hb (by simp [q'])) (fun q' => hb (by simp [q'])) (fun q' => hb (by simp [q'])) (fun q' => hb (by simp [q'])) (fun q' => hb (by simp [q'])) q) hf⟩
  self := fun A i s Q E st h => wpAny_pyIter_zip st.1 h
end DL

/-! DL9: what may be walked, at data -/
namespace PySem
open PyProof.Rows Builtin
section
variable {prog : Program} {w : World} {A : Around} {E : Value → Shared → Prop} {s : Shared}
theorem meets_enumerate_newB1 {v : Value} {o : Obj} {H : Heap → Prop} (B : Begins v o H) :
    Meets (Builtin.«enumerate.__new__» ⟨[.type "enumerate", v], []⟩) (fun _ R s => H s.heap ∧
      R (.ok (.ret (.ref (s.heap.push o).objs.size))) { s with heap := (s.heap.push o).push { cls := .type "enumerate", data := .fields #[.none, .bool false, .ref s.heap.objs.size, rawInt 0, .none, .none] } }) :=
  .of_wp fun prog w A R s h => by
    obtain ⟨hp, g, d, tk, os⟩ := s; obtain ⟨h1, h⟩ := h
    have hsub := sub_enumerate
    have q1 : ∀ {A' : Around} {E : Value → Shared → Prop} {Q : Value → Shared → Prop}, Q (.ref hp.objs.size) ⟨hp.push o, g, d, tk, os⟩ → wpAny (model prog w) A' (pyIter v) Q E ⟨hp, g, d, tk, os⟩ :=
      fun q => B.iter prog w _ _ ⟨hp, g, d, tk, os⟩ _ h1 q
    wp_walk using q1
    refine wpAny_stack_any fun st => wpAny_pure ?_
    split
    · rename_i c _ _ _ _ _
      cases (c == Value.type "enumerate")
      · wp_walk using q1
        exact ⟨_, rfl, h⟩
      · wp_walk using q1
        exact ⟨_, rfl, h⟩
    · wp_walk using q1
      exact ⟨_, rfl, h⟩
theorem enum_begins1 {v : Value} {o : Obj} {H : Heap → Prop} {Q : Value → Shared → Prop} (B : Begins v o H) (h1 : H s.heap)
    (h : ∀ h', IsEnum h' (s.heap.objs.size + 1) s.heap.objs.size 0 .none → h'.get? s.heap.objs.size = some o → h'.objs.size = s.heap.objs.size + 2 →
      (∀ b o, s.heap.get? b = some o → h'.get? b = some o) → Q (.ref (s.heap.objs.size + 1)) { s with heap := h' }) :
    wpAny (model prog w) A (call (.type "enumerate") [v]) Q E s := by
  refine callType_new F.called_enumerate (by decide) (F.typeCall_enumerate_1 _) (F.newCall_enumerate_1 _) (fun obj => F.args_object_init_2 obj _) F.entry_enumerate_new
    (meets_enumerate_newB1 B) ⟨h1, ?_⟩
  have hz : (s.heap.push o).objs.size = s.heap.objs.size + 1 := Heap.size_push ..
  show _ ∧ _
  rw [hz]
  have he : IsEnum ((s.heap.push o).push { cls := .type "enumerate", data := .fields #[.none, .bool false, .ref s.heap.objs.size, rawInt 0, .none, .none] }) (s.heap.objs.size + 1) s.heap.objs.size 0 .none := by
    have := Heap.get?_push_size (s.heap.push o) (o := { cls := .type "enumerate", data := .fields #[.none, .bool false, .ref s.heap.objs.size, rawInt 0, .none, .none] }) rfl
    rw [hz] at this; exact this
  refine ⟨⟨_, he, rfl⟩, h _ he (Heap.get?_push_of_some _ (Heap.get?_push_size _ B.free)) (by rw [Heap.size_push, hz]) fun b o x => Heap.get?_push_of_some _ (Heap.get?_push_of_some _ x)⟩
end
end PySem
namespace DL
open PySem PySem.Spec PyProof.Rows L2

section
variable {X : Cx} {e e2 e3 : Expr} {ta : TA} {p pos tpos : Pos} {elts : List Expr} {kk : Nat} {tg : Expr}
def iEn (K : PySem.W.Frag) (ta : TA) : TI := fun σ H R => ta σ H fun vs H1 => ∃ a k xs, vs = [.ref a] ∧ kSq k K H1 a xs ∧ R (ItE K k a) H1
theorem pi_enumK (hg : Gl X "enumerate") (hm : X.mg "enumerate" = none) (ha : PA X [e] ta) (hs : starEach [e] X.env = [(false, eval e X.env)] := by rfl) :
    PI X (.Tuple elts kk tpos) (.Call (.Name "enumerate" p) [e] [] pos) (iEn X.K ta) := by
  refine ⟨fun pins s σ H R I h => ?_⟩
  refine Call_ (ld_blt I hg hm boot_enumerate (PyProof.Rows.callWith_type1 (thn (ha.run pos pins s σ H _ I h) fun us s1 ⟨vs, H1, I1, r1, q1⟩ => ?_) hs rfl))
  obtain ⟨a, k, xs, ex, hq, q⟩ := q1
  subst ex
  cases r1 with
  | cons r rr =>
    cases rr
    cases r
    obtain ⟨its, rv, p', hal⟩ := kInv I1 hq
    refine enum_begins1 (kBegins k a its.toArray) p' fun h' he hit hsz hk => ?_
    refine wpAny_pyIter_enum he ?_
    have I2 : Inv X pins σ H1 { s1 with heap := h' } := I1.kept (t' := s1.toks) hk
    refine ⟨s1.heap.objs.size + 1, [s1.heap.objs.size + 1, s1.heap.objs.size], _, _, H1, rfl, I2, turn_enumK k a (s1.heap.objs.size + 1) s1.heap.objs.size (Nat.succ_ne_self _) (Nat.ne_of_lt hal) (Nat.ne_of_gt (Nat.lt_succ_of_lt hal)), ⟨⟨.none, he⟩, kIt_new hit⟩, fun b hb => ?_, q⟩
    have e' : b = s1.heap.objs.size + 1 ∨ b = s1.heap.objs.size := by simpa using hb
    have hle : s1.heap.objs.size ≤ b := by
      rcases e' with z | z
      · rw [z]; exact Nat.le_succ _
      · rw [z]; exact Nat.le_refl _
    exact I1.fpOk hle (I1.hok.fresh hle)
def iZ2 (K : PySem.W.Frag) (ta : TA) : TI := fun σ H R => ta σ H fun vs H1 => ∃ a b k1 k2 xs ys, vs = [.ref a, .ref b] ∧ kSq k1 K H1 a xs ∧ kSq k2 K H1 b ys ∧ R (ItZ2 K k1 k2 a b) H1
theorem sep2_at (n a b : Nat) (ha : a < n) (hb : b < n) : ZipSep2 (n + 4) (n + 2) (n + 3) n (n + 1) [n, a] [n + 1, b] := by
  constructor <;> first
    | exact List.mem_cons_self
    | (intro h; exact absurd (show (_ : Nat) = _ from h) (by omega))
    | (intro h; rcases List.mem_cons.mp h with h | h <;> first | exact absurd (show (_ : Nat) = _ from h) (by omega) | exact absurd (show (_ : Nat) = _ from List.mem_singleton.mp h) (by omega))
theorem pi_zip2K (hg : Gl X "zip") (hm : X.mg "zip" = none) (ha : PA X [e, e2] ta) (hs : starEach [e, e2] X.env = (false, eval e X.env) :: starEach [e2] X.env := by rfl) (hpl : (backTo pos (starEach [e2] X.env)).any (·.1) = false := by rfl) :
    PI X (.Tuple elts kk tpos) (.Call (.Name "zip" p) [e, e2] [] pos) (iZ2 X.K ta) := by
  refine ⟨fun pins s σ H R I h => ?_⟩
  refine Call_ (ld_blt I hg hm PyProof.Rows.boot_zip (PyProof.Rows.callWith_type1 (thn (ha.run pos pins s σ H _ I h) fun us s1 ⟨vs, H1, I1, r1, q1⟩ => ?_) hs hpl))
  obtain ⟨a, b, k1, k2, xs, ys, ex, hqx, hqy, q⟩ := q1
  subst ex
  cases r1 with
  | cons r rr =>
    cases rr with
    | cons r' rr =>
      cases rr
      cases r
      cases r'
      obtain ⟨its, rv, p1, hal⟩ := kInv I1 hqx
      obtain ⟨its2, rv2, p2, hbl⟩ := kInv I1 hqy
      refine zip_begins2 (kBegins k1 a its.toArray) (kBegins k2 b its2.toArray) p1 p2 fun h' hz hTI hTO h1 h2 hsz hk => wpAny_pyIter_zip hz ?_
      have I2 : Inv X pins σ H1 { s1 with heap := h' } := I1.kept (t' := s1.toks) hk
      refine ⟨s1.heap.objs.size + 4, [s1.heap.objs.size + 4, s1.heap.objs.size + 2, s1.heap.objs.size + 3, s1.heap.objs.size, s1.heap.objs.size + 1], _, _, H1, rfl, I2, turn_zip2K k1 k2 (sep2_at s1.heap.objs.size a b hal hbl) (Nat.ne_of_lt hal) (Nat.ne_of_lt (Nat.lt_succ_of_lt hbl)), ⟨hz, hTI, ⟨_, _, hTO⟩, kIt_new h1, kIt_new h2⟩, fun c hcm => ?_, q⟩
      have e' : c = s1.heap.objs.size + 4 ∨ c = s1.heap.objs.size + 2 ∨ c = s1.heap.objs.size + 3 ∨ c = s1.heap.objs.size ∨ c = s1.heap.objs.size + 1 := by simpa using hcm
      have hle : s1.heap.objs.size ≤ c := by
        rcases e' with z | z | z | z | z <;> rw [z] <;> first | exact Nat.le_add_right _ _ | exact Nat.le_refl _
      exact I1.fpOk hle (I1.hok.fresh hle)
def iZ3 (K : PySem.W.Frag) (ta : TA) : TI := fun σ H R => ta σ H fun vs H1 => ∃ a b c k1 k2 k3 xs ys zs, vs = [.ref a, .ref b, .ref c] ∧ kSq k1 K H1 a xs ∧ kSq k2 K H1 b ys ∧ kSq k3 K H1 c zs ∧ R (ItZ3 K k1 k2 k3 a b c) H1
theorem sep3_at (n a b c : Nat) (ha : a < n) (hb : b < n) (hc : c < n) : ZipSep3 (n + 5) (n + 3) (n + 4) n (n + 1) (n + 2) [n, a] [n + 1, b] [n + 2, c] := by
  constructor <;> first
    | exact List.mem_cons_self
    | (intro h; exact absurd (show (_ : Nat) = _ from h) (by omega))
    | (intro h; rcases List.mem_cons.mp h with h | h <;> first | exact absurd (show (_ : Nat) = _ from h) (by omega) | exact absurd (show (_ : Nat) = _ from List.mem_singleton.mp h) (by omega))
theorem pi_zip3K (hg : Gl X "zip") (hm : X.mg "zip" = none) (ha : PA X [e, e2, e3] ta) (hs : starEach [e, e2, e3] X.env = (false, eval e X.env) :: starEach [e2, e3] X.env := by rfl) (hpl : (backTo pos (starEach [e2, e3] X.env)).any (·.1) = false := by rfl) :
    PI X (.Tuple elts kk tpos) (.Call (.Name "zip" p) [e, e2, e3] [] pos) (iZ3 X.K ta) := by
  refine ⟨fun pins s σ H R I h => ?_⟩
  refine Call_ (ld_blt I hg hm PyProof.Rows.boot_zip (PyProof.Rows.callWith_type1 (thn (ha.run pos pins s σ H _ I h) fun us s1 ⟨vs, H1, I1, r1, q1⟩ => ?_) hs hpl))
  obtain ⟨a, b, c0, k1, k2, k3, xs, ys, zs, ex, hqx, hqy, hqz, q⟩ := q1
  subst ex
  cases r1 with
  | cons r rr =>
    cases rr with
    | cons r' rr =>
      cases rr with
      | cons r'' rr =>
        cases rr
        cases r
        cases r'
        cases r''
        obtain ⟨its, rv, p1, hal⟩ := kInv I1 hqx
        obtain ⟨its2, rv2, p2, hbl⟩ := kInv I1 hqy
        obtain ⟨its3, rv3, p3, hcl⟩ := kInv I1 hqz
        refine zip_begins3 (kBegins k1 a its.toArray) (kBegins k2 b its2.toArray) (kBegins k3 c0 its3.toArray) p1 p2 p3 fun h' hz hTI hTO h1 h2 h3 hsz hk => wpAny_pyIter_zip hz ?_
        have I2 : Inv X pins σ H1 { s1 with heap := h' } := I1.kept (t' := s1.toks) hk
        refine ⟨s1.heap.objs.size + 5, [s1.heap.objs.size + 5, s1.heap.objs.size + 3, s1.heap.objs.size + 4, s1.heap.objs.size, s1.heap.objs.size + 1, s1.heap.objs.size + 2], _, _, H1, rfl, I2, turn_zip3K k1 k2 k3 (sep3_at s1.heap.objs.size a b c0 hal hbl hcl) (Nat.ne_of_lt hal) (Nat.ne_of_lt (Nat.lt_succ_of_lt hbl)) (Nat.ne_of_lt (Nat.lt_succ_of_lt (Nat.lt_succ_of_lt hcl))), ⟨hz, hTI, ⟨_, _, _, hTO⟩, kIt_new h1, kIt_new h2, kIt_new h3⟩, fun c hcm => ?_, q⟩
        have e' : c = s1.heap.objs.size + 5 ∨ c = s1.heap.objs.size + 3 ∨ c = s1.heap.objs.size + 4 ∨ c = s1.heap.objs.size ∨ c = s1.heap.objs.size + 1 ∨ c = s1.heap.objs.size + 2 := by simpa using hcm
        have hle : s1.heap.objs.size ≤ c := by
          rcases e' with z | z | z | z | z | z <;> rw [z] <;> first | exact Nat.le_add_right _ _ | exact Nat.le_refl _
        exact I1.fpOk hle (I1.hok.fresh hle)
/-- a list or a tuple -/
def iSq (K : PySem.W.Frag) (tl : TE) : TI := fun σ H R => tl σ H fun x H1 => ∃ a, x = .ref a ∧ ((∃ xs, SqL K H1 a xs ∧ R (Itl K a) H1) ∨ ∃ xs, SqT K H1 a xs ∧ R (Itt K a) H1)
theorem pi_seq {l : Expr} {tl : TE} (hl : PE X l tl) : PI X tg l (iSq X.K tl) := by
  refine ⟨fun pins s σ H R I h => ?_⟩
  refine thn (hl.run pins s σ H _ I h) fun v s1 ⟨x, H1, I1, r1, q1⟩ => ?_
  obtain ⟨a, e, q1⟩ := q1
  subst e
  cases r1
  rcases q1 with ⟨xs, hq, q⟩ | ⟨xs, hq, q⟩
  · obtain ⟨its, rv, p, hz⟩ := I1.list hq
    refine wpAny_pyIter_list p.isList ?_
    refine ⟨s1.heap.objs.size, [s1.heap.objs.size], _, _, H1, rfl, I1.kept (t' := s1.toks) fun b o e => Heap.get?_push_of_some _ e, turn_list a _, ⟨_, Heap.get?_push_size _ rfl, rfl, rfl⟩, fun b hb => ?_, q⟩
    have e : b = s1.heap.objs.size := by simpa using hb
    subst e
    exact I1.fpOk (Nat.le_refl _) (I1.hok.fresh (Nat.le_refl _))
  · obtain ⟨its, rv, p, hz⟩ := I1.tuple hq
    refine wpAny_pyIter_tuple (show s1.heap.IsTuple a its.toArray from p) ?_
    refine ⟨s1.heap.objs.size, [s1.heap.objs.size], _, _, H1, rfl, I1.kept (t' := s1.toks) fun b o e => Heap.get?_push_of_some _ e, turn_tuple a _, ⟨_, Heap.get?_push_size _ rfl, rfl, rfl⟩, fun b hb => ?_, q⟩
    have e : b = s1.heap.objs.size := by simpa using hb
    subst e
    exact I1.fpOk (Nat.le_refl _) (I1.hok.fresh (Nat.le_refl _))
end

/-! ### at data -/
section
variable {K : PySem.W.Frag} {T : Tab} {F : Hp}
/-- an iterator that changes nothing -/
theorem yj_still {J : It} {ds : List D} (h : ∀ F1 H1, Same F F1 → Same F1 H1 → (∀ i, i < ds.length → J.go i H1 ∧ ∀ x H2, J.yld i H1 x H2 → H2 = H1 ∧ ∃ d, ds[i]? = some d ∧ Rp K T F1 d x) ∧ J.stop ds.length H1) : YJ K T F J ds := fun F1 H1 s1 s2 => by
  obtain ⟨h1, h2⟩ := h F1 H1 s1 s2
  refine ⟨fun i hi => ?_, h2⟩
  obtain ⟨g, y⟩ := h1 i hi
  refine ⟨g, fun x H2 hy => ?_⟩
  obtain ⟨e, d, ed, r⟩ := y x H2 hy
  subst e
  exact ⟨F1, d, Same.refl _, s2, Same.refl _, fun a h => .inl h, ed, r⟩
/-- .. that gives new tuples -/
theorem yj_tups {J : It} {ds : List D} (h : ∀ F1 H1, Same F F1 → Same F1 H1 → (∀ i, i < ds.length → J.go i H1 ∧ ∀ x H2, J.yld i H1 x H2 → ∃ t o vs es, x = .ref t ∧ H1 t = none ∧ o.dict = none ∧ H2 = upd H1 t (.frz o (.tup vs)) ∧ ds[i]? = some (.tup es) ∧ Rps K T F1 es vs) ∧ J.stop ds.length H1) : YJ K T F J ds := fun F1 H1 s1 s2 => by
  obtain ⟨h1, h2⟩ := h F1 H1 s1 s2
  refine ⟨fun i hi => ?_, h2⟩
  obtain ⟨g, y⟩ := h1 i hi
  refine ⟨g, fun x H2 hy => ?_⟩
  obtain ⟨t, o, vs, es, rfl, ht, ho, rfl, ed, r⟩ := y x H2 hy
  have hf : F1 t = none := by
    cases e : F1 t with
    | none => rfl
    | some u => rw [s2 _ _ e] at ht; cases ht
  refine ⟨upd F1 t (.frz o (.tup vs)), .tup es, same_upd hf, ?_, ?_, fun a ha => ?_, ed, rp_tup.mpr ⟨t, vs, rfl, .inl ⟨o, upd_same, ho⟩, Rps.mono (same_upd hf) _ _ r⟩⟩
  · intro b u e
    by_cases hb : b = t
    · subst hb; rw [upd_same] at e ⊢; exact e
    · rw [upd_ne hb] at e ⊢; exact s2 _ _ e
  · intro b u e
    rw [upd_ne (ne_of_none e ht)]; exact e
  · by_cases hb : a = t
    · subst hb; exact .inr ht
    · rw [upd_ne hb] at ha; exact .inl ha
def itemsOf : D → Option (List D)
  | .lst ds => some ds
  | .tup ds => some ds
  | _ => none
theorem itemsOf_rp {d : D} {ds : List D} {v : V} (e : itemsOf d = some ds) (r : Rp K T F d v) : ∃ a k vs, v = .ref a ∧ kSq k K F a vs ∧ Rps K T F ds vs := by
  cases d with
  | lst es => cases e; obtain ⟨a, vs, rfl, q, r⟩ := rp_lst.mp r; exact ⟨a, .l, vs, rfl, q, r⟩
  | tup es => cases e; obtain ⟨a, vs, rfl, q, r⟩ := rp_tupT r; exact ⟨a, .t, vs, rfl, q, r⟩
  | _ => cases e
theorem kSq_mono {k : Kd} {F' : Hp} {a : Addr} {xs : List V} (s : Same F F') (h : kSq k K F a xs) : kSq k K F' a xs := by
  cases k with
  | l => exact sqL_mono s h
  | t => exact sqT_mono s h
end

section
variable {X : Cx} {T : Tab} {W : WX} {e e2 e3 tg : Expr} {es : List Expr} {f : En → O R} {fs : En → O (List R)} {p pos tpos : Pos} {elts : List Expr} {kk : Nat}
/-- over a list or a tuple -/
def vSeqI (ε : En) (r : R) : O (List D) :=
  match frz ε r with
  | some (d, ε') => match itemsOf d with
    | some ds => .ok ds ε'
    | none => .bad
  | none => .bad
def dSeqI (f : En → O R) : En → O (List D) := fun ε => (f ε).bind fun r ε1 => vSeqI ε1 r
theorem di_seq (he : DE X T W e f) : DI X T W tg e (dSeqI f) := by
  refine PI.imp (pi_seq he) fun σ H Q q => ?_
  obtain ⟨F, ε, k, p⟩ := q
  refine tD_use (g := fun r ε1 => vSeqI ε1 r) k Ext.refl p fun v F1 H1 r ε1 k1 x1 _ q1 n1 p1 => ?_
  unfold vSeqI at p1
  cases e1 : frz ε1 r with
  | none => simp only [e1] at p1; exact p1.elim
  | some z =>
    obtain ⟨d, ε2⟩ := z
    simp only [e1] at p1
    cases e2 : itemsOf d with
    | none => simp only [e2] at p1; exact p1.elim
    | some ds =>
      simp only [e2] at p1
      obtain ⟨F2, k2, x2, r2, _⟩ := frz_ok x1 k1 q1 n1 e1
      have go := p1 F2 H1 k2 x2
      cases d with
      | lst es =>
        cases e2
        obtain ⟨a, vs, rfl, hq, hr⟩ := rp_lst.mp r2
        refine ⟨a, rfl, .inl ⟨vs, sqL_mono k2.sub hq, go _ (yj_still fun F1 H1 s1 s2 => ⟨fun i hi => ?_, ?_⟩)⟩⟩
        · have hv : i < vs.length := by rw [hr.length]; exact hi
          have hq' := sqL_mono s2 (sqL_mono s1 hq)
          refine ⟨⟨vs, vs[i], hq', List.getElem?_eq_getElem hv⟩, fun x H2 ⟨e, y⟩ => ⟨e, ?_⟩⟩
          obtain ⟨d, ed, rd⟩ := hr.get' (y vs hq')
          exact ⟨d, ed, Rp.mono s1 _ _ rd⟩
        · exact ⟨vs, sqL_mono s2 (sqL_mono s1 hq), by rw [hr.length]; exact Nat.le_refl _⟩
      | tup es =>
        cases e2
        obtain ⟨a, vs, rfl, hq, hr⟩ := rp_tupT r2
        refine ⟨a, rfl, .inr ⟨vs, sqT_mono k2.sub hq, go _ (yj_still fun F1 H1 s1 s2 => ⟨fun i hi => ?_, ?_⟩)⟩⟩
        · have hv : i < vs.length := by rw [hr.length]; exact hi
          have hq' := sqT_mono s2 (sqT_mono s1 hq)
          refine ⟨⟨vs, vs[i], hq', List.getElem?_eq_getElem hv⟩, fun x H2 ⟨e, y⟩ => ⟨e, ?_⟩⟩
          obtain ⟨d, ed, rd⟩ := hr.get' (y vs hq')
          exact ⟨d, ed, Rp.mono s1 _ _ rd⟩
        · exact ⟨vs, sqT_mono s2 (sqT_mono s1 hq), by rw [hr.length]; exact Nat.le_refl _⟩
      | _ => cases e2
def rangeD (lo : Int) (n : Nat) : List D := (List.range n).map fun i => .int (lo + (i : Nat))
theorem rangeD_length (lo : Int) (n : Nat) : (rangeD lo n).length = n := by unfold rangeD; rw [List.length_map, List.length_range]
theorem yj_range {K : PySem.W.Frag} {F : Hp} {lo : Int} {n : Nat} : YJ K T F (Itr lo n) (rangeD lo n) := yj_still fun F1 H1 _ _ => ⟨fun i hi => by
  rw [rangeD_length] at hi
  refine ⟨hi, fun x H2 ⟨e, y⟩ => ⟨e, .int (lo + i), ?_, rp_int.mpr y⟩⟩
  unfold rangeD
  rw [List.getElem?_map, List.getElem?_range hi]; rfl, by rw [rangeD_length]; exact Nat.le_refl _⟩
def smallI (j : Int) : Bool := Nat.ble j.natAbs 4611686018427387903
theorem smallI_ok {j : Int} (h : smallI j = true) : -(2 ^ 62) ≤ j ∧ j < 2 ^ 62 := by
  have := Nat.le_of_ble_eq_true h
  omega
theorem smallI_of {j : Int} (h : -(2 ^ 61) ≤ j ∧ j < 2 ^ 61) : smallI j = true := Nat.ble_eq_true_of_le (by omega)
def vRng1 (ε : En) (rs : List R) : O (List D) :=
  match ress ε rs with
  | some [.int j] => if smallI j then .ok (rangeD 0 j.toNat) ε else .bad
  | _ => .bad
def vRng2 (ε : En) (rs : List R) : O (List D) :=
  match ress ε rs with
  | some [.int i, .int j] => if smallI i && smallI j then .ok (rangeD i (j - i).toNat) ε else .bad
  | _ => .bad
def dRng1 (fs : En → O (List R)) : En → O (List D) := fun ε => (fs ε).bind fun rs ε1 => vRng1 ε1 rs
def dRng2 (fs : En → O (List R)) : En → O (List D) := fun ε => (fs ε).bind fun rs ε1 => vRng2 ε1 rs
theorem ress_one {K : PySem.W.Frag} {F H : Hp} {σ : L2.St} {ε : En} {rs : List R} {vs : List V} {d : D} (k : Ok K T F H σ ε) (q : RpRs K T F H σ ε rs vs) (e : ress ε rs = some [d]) : ∃ v, vs = [v] ∧ Rp K T H d v := by
  obtain ⟨v, r, rfl, h1, h2⟩ := rps_cons.mp (ress_rps k q e)
  rw [rps_nil.mp h2]
  exact ⟨v, rfl, h1⟩
theorem ress_two {K : PySem.W.Frag} {F H : Hp} {σ : L2.St} {ε : En} {rs : List R} {vs : List V} {d d' : D} (k : Ok K T F H σ ε) (q : RpRs K T F H σ ε rs vs) (e : ress ε rs = some [d, d']) : ∃ v v', vs = [v, v'] ∧ Rp K T H d v ∧ Rp K T H d' v' := by
  obtain ⟨v, r, rfl, h1, h2⟩ := rps_cons.mp (ress_rps k q e)
  obtain ⟨v', r', rfl, h3, h4⟩ := rps_cons.mp h2
  rw [rps_nil.mp h4]
  exact ⟨v, v', rfl, h1, h3⟩
theorem di_range1 (hg : Gl X "range") (hm : X.mg "range" = none) (ha : DA X T W [e] fs) (hs : starEach [e] X.env = [(false, eval e X.env)] := by rfl) : DI X T W tg (.Call (.Name "range" p) [e] [] pos) (dRng1 fs) := by
  refine PI.imp (pi_range1 hg hm ha hs) fun σ H Q q => ?_
  obtain ⟨F, ε, k, p⟩ := q
  refine tDA_use (g := fun rs ε1 => vRng1 ε1 rs) k Ext.refl p fun vs F1 H1 rs ε1 k1 x1 _ q1 n1 nd p1 => ?_
  unfold vRng1 at p1
  split at p1
  · rename_i j e1
    split at p1
    · rename_i hj
      obtain ⟨v, rfl, r⟩ := ress_one k1 q1 e1
      have hj := smallI_ok hj
      exact ⟨j, by rw [rp_int.mp r], hj.1, hj.2, p1 F1 H1 k1 x1 _ yj_range⟩
    · exact p1.elim
  · exact p1.elim
theorem di_range2 (hg : Gl X "range") (hm : X.mg "range" = none) (ha : DA X T W [e, e2] fs) (hs : starEach [e, e2] X.env = [(false, eval e X.env), (false, eval e2 X.env)] := by rfl) (hs2 : starEach [e2] X.env = [(false, eval e2 X.env)] := by rfl) : DI X T W tg (.Call (.Name "range" p) [e, e2] [] pos) (dRng2 fs) := by
  refine PI.imp (pi_range2 hg hm ha hs hs2) fun σ H Q q => ?_
  obtain ⟨F, ε, k, p⟩ := q
  refine tDA_use (g := fun rs ε1 => vRng2 ε1 rs) k Ext.refl p fun vs F1 H1 rs ε1 k1 x1 _ q1 n1 nd p1 => ?_
  unfold vRng2 at p1
  split at p1
  · rename_i i j e1
    split at p1
    · rename_i hj
      obtain ⟨v, v', rfl, r, r'⟩ := ress_two k1 q1 e1
      rw [Bool.and_eq_true] at hj
      have hj := And.intro (smallI_ok hj.1) (smallI_ok hj.2)
      exact ⟨i, j, by rw [rp_int.mp r, rp_int.mp r'], ⟨hj.1.1, hj.1.2, hj.2.1, hj.2.2⟩, p1 F1 H1 k1 x1 _ yj_range⟩
    · exact p1.elim
  · exact p1.elim
/-- enumerate, zip -/
def enumD (ds : List D) : List D := (List.range ds.length).zipWith (fun i d => .tup [.int (i : Nat), d]) ds
def zip2D (xs ys : List D) : List D := List.zipWith (fun x y => .tup [x, y]) xs ys
def zip3D (xs ys zs : List D) : List D := List.zipWith (fun x yz => .tup (x :: yz)) xs (List.zipWith (fun y z => [y, z]) ys zs)
def vEnum (ε : En) (rs : List R) : O (List D) :=
  match frzs ε rs with
  | some ([d], ε') => match itemsOf d with
    | some ds => .ok (enumD ds) ε'
    | none => .bad
  | _ => .bad
def vZip2 (ε : En) (rs : List R) : O (List D) :=
  match frzs ε rs with
  | some ([d1, d2], ε') => match itemsOf d1, itemsOf d2 with
    | some xs, some ys => .ok (zip2D xs ys) ε'
    | _, _ => .bad
  | _ => .bad
def vZip3 (ε : En) (rs : List R) : O (List D) :=
  match frzs ε rs with
  | some ([d1, d2, d3], ε') => match itemsOf d1, itemsOf d2, itemsOf d3 with
    | some xs, some ys, some zs => .ok (zip3D xs ys zs) ε'
    | _, _, _ => .bad
  | _ => .bad
def dEnum (fs : En → O (List R)) : En → O (List D) := fun ε => (fs ε).bind fun rs ε1 => vEnum ε1 rs
def dZip2 (fs : En → O (List R)) : En → O (List D) := fun ε => (fs ε).bind fun rs ε1 => vZip2 ε1 rs
def dZip3 (fs : En → O (List R)) : En → O (List D) := fun ε => (fs ε).bind fun rs ε1 => vZip3 ε1 rs
theorem di_enum (hg : Gl X "enumerate") (hm : X.mg "enumerate" = none) (ha : DA X T W [e] fs) (hs : starEach [e] X.env = [(false, eval e X.env)] := by rfl) : DI X T W (.Tuple elts kk tpos) (.Call (.Name "enumerate" p) [e] [] pos) (dEnum fs) := by
  refine PI.imp (pi_enumK hg hm ha hs) fun σ H Q q => ?_
  obtain ⟨F, ε, k, p⟩ := q
  refine tDA_use (g := fun rs ε1 => vEnum ε1 rs) k Ext.refl p fun vs F1 H1 rs ε1 k1 x1 _ q1 n1 nd p1 => ?_
  unfold vEnum at p1
  split at p1
  · rename_i d ε' e1
    cases e2 : itemsOf d with
    | none => rw [e2] at p1; exact p1.elim
    | some ds =>
      rw [e2] at p1
      obtain ⟨F2, k2, x2, r2, _⟩ := frzs_ok x1 k1 q1 n1 nd e1
      obtain ⟨v, w, rfl, rd, rn⟩ := rps_cons.mp r2
      rw [rps_nil.mp rn]
      obtain ⟨a, kd, us, rfl, hq, hr⟩ := itemsOf_rp e2 rd
      refine ⟨a, kd, us, rfl, kSq_mono k2.sub hq, p1 F2 H1 k2 x2 _ (yj_tups fun F3 H3 s1 s2 => ⟨fun i hi => ?_, ?_⟩)⟩
      · have hi' : i < ds.length := by simpa [enumD] using hi
        have hv : i < us.length := by rw [hr.length]; exact hi'
        have hq' := kSq_mono s2 (kSq_mono s1 hq)
        refine ⟨⟨us, us[i], hq', List.getElem?_eq_getElem hv⟩, fun x H2 ⟨t, y, o, e, ht, ho, eH, h⟩ => ?_⟩
        obtain ⟨d', ed, rd'⟩ := hr.get' (h us hq')
        refine ⟨t, o, _, [.int (i : Nat), d'], e, ht, ho, eH, ?_, rps_cons.mpr ⟨_, _, rfl, rp_int.mpr rfl, Rps.one (Rp.mono s1 _ _ rd')⟩⟩
        unfold enumD
        rw [List.getElem?_zipWith, List.getElem?_range hi', ed]
      · refine ⟨us, kSq_mono s2 (kSq_mono s1 hq), ?_⟩
        rw [hr.length]; simp [enumD]
  · exact p1.elim
theorem di_zip2 (hg : Gl X "zip") (hm : X.mg "zip" = none) (ha : DA X T W [e, e2] fs) (hs : starEach [e, e2] X.env = (false, eval e X.env) :: starEach [e2] X.env := by rfl) (hpl : (backTo pos (starEach [e2] X.env)).any (·.1) = false := by rfl) :
    DI X T W (.Tuple elts kk tpos) (.Call (.Name "zip" p) [e, e2] [] pos) (dZip2 fs) := by
  refine PI.imp (pi_zip2K hg hm ha hs hpl) fun σ H Q q => ?_
  obtain ⟨F, ε, k, p⟩ := q
  refine tDA_use (g := fun rs ε1 => vZip2 ε1 rs) k Ext.refl p fun vs F1 H1 rs ε1 k1 x1 _ q1 n1 nd p1 => ?_
  unfold vZip2 at p1
  split at p1
  · rename_i d d2 ε' e1
    cases e2 : itemsOf d with
    | none => simp only [e2] at p1; exact p1.elim
    | some ds =>
      cases e3 : itemsOf d2 with
      | none => simp only [e2, e3] at p1; exact p1.elim
      | some ds2 =>
        simp only [e2, e3] at p1
        obtain ⟨F2, k2, x2, r2, _⟩ := frzs_ok x1 k1 q1 n1 nd e1
        obtain ⟨v, w, rfl, rd, rn⟩ := rps_cons.mp r2
        obtain ⟨v2, w2, rfl, rd2, rn2⟩ := rps_cons.mp rn
        rw [rps_nil.mp rn2]
        obtain ⟨a, kd, us, rfl, hq, hr⟩ := itemsOf_rp e2 rd
        obtain ⟨b, kd2, us2, rfl, hq2, hr2⟩ := itemsOf_rp e3 rd2
        refine ⟨a, b, kd, kd2, us, us2, rfl, kSq_mono k2.sub hq, kSq_mono k2.sub hq2, p1 F2 H1 k2 x2 _ (yj_tups fun F3 H3 s1 s2 => ⟨fun i hi => ?_, ?_⟩)⟩
        · have hi' : i < ds.length ∧ i < ds2.length := by
            have h := hi
            simp [zip2D] at h
            omega
          have hv : i < us.length := by rw [hr.length]; exact hi'.1
          have hv2 : i < us2.length := by rw [hr2.length]; exact hi'.2
          have hq' := kSq_mono s2 (kSq_mono s1 hq)
          have hq2' := kSq_mono s2 (kSq_mono s1 hq2)
          refine ⟨⟨us, us2, us[i], us2[i], hq', hq2', List.getElem?_eq_getElem hv, List.getElem?_eq_getElem hv2⟩, fun x H2 ⟨t, y, y2, o, e, ht, ho, eH, h, h2⟩ => ?_⟩
          obtain ⟨d', ed, rd'⟩ := hr.get' (h us hq')
          obtain ⟨d2', ed2, rd2'⟩ := hr2.get' (h2 us2 hq2')
          refine ⟨t, o, _, [d', d2'], e, ht, ho, eH, ?_, rps_cons.mpr ⟨_, _, rfl, Rp.mono s1 _ _ rd', Rps.one (Rp.mono s1 _ _ rd2')⟩⟩
          unfold zip2D
          rw [List.getElem?_zipWith, ed, ed2]
        · refine ⟨us, us2, kSq_mono s2 (kSq_mono s1 hq), kSq_mono s2 (kSq_mono s1 hq2), ?_⟩
          rw [hr.length, hr2.length]; simp [zip2D]
  · exact p1.elim
theorem di_zip3 (hg : Gl X "zip") (hm : X.mg "zip" = none) (ha : DA X T W [e, e2, e3] fs) (hs : starEach [e, e2, e3] X.env = (false, eval e X.env) :: starEach [e2, e3] X.env := by rfl) (hpl : (backTo pos (starEach [e2, e3] X.env)).any (·.1) = false := by rfl) :
    DI X T W (.Tuple elts kk tpos) (.Call (.Name "zip" p) [e, e2, e3] [] pos) (dZip3 fs) := by
  refine PI.imp (pi_zip3K hg hm ha hs hpl) fun σ H Q q => ?_
  obtain ⟨F, ε, k, p⟩ := q
  refine tDA_use (g := fun rs ε1 => vZip3 ε1 rs) k Ext.refl p fun vs F1 H1 rs ε1 k1 x1 _ q1 n1 nd p1 => ?_
  unfold vZip3 at p1
  split at p1
  · rename_i d d2 d3 ε' e1
    cases e2 : itemsOf d with
    | none => simp only [e2] at p1; exact p1.elim
    | some ds =>
      cases e3 : itemsOf d2 with
      | none => simp only [e2, e3] at p1; exact p1.elim
      | some ds2 =>
        cases e4 : itemsOf d3 with
        | none => simp only [e2, e3, e4] at p1; exact p1.elim
        | some ds3 =>
          simp only [e2, e3, e4] at p1
          obtain ⟨F2, k2, x2, r2, _⟩ := frzs_ok x1 k1 q1 n1 nd e1
          obtain ⟨v, w, rfl, rd, rn⟩ := rps_cons.mp r2
          obtain ⟨v2, w2, rfl, rd2, rn2⟩ := rps_cons.mp rn
          obtain ⟨v3, w3, rfl, rd3, rn3⟩ := rps_cons.mp rn2
          rw [rps_nil.mp rn3]
          obtain ⟨a, kd, us, rfl, hq, hr⟩ := itemsOf_rp e2 rd
          obtain ⟨b, kd2, us2, rfl, hq2, hr2⟩ := itemsOf_rp e3 rd2
          obtain ⟨c, kd3, us3, rfl, hq3, hr3⟩ := itemsOf_rp e4 rd3
          refine ⟨a, b, c, kd, kd2, kd3, us, us2, us3, rfl, kSq_mono k2.sub hq, kSq_mono k2.sub hq2, kSq_mono k2.sub hq3, p1 F2 H1 k2 x2 _ (yj_tups fun F3 H3 s1 s2 => ⟨fun i hi => ?_, ?_⟩)⟩
          · have hi' : i < ds.length ∧ i < ds2.length ∧ i < ds3.length := by
              have h := hi
              simp [zip3D] at h
              omega
            have hv : i < us.length := by rw [hr.length]; exact hi'.1
            have hv2 : i < us2.length := by rw [hr2.length]; exact hi'.2.1
            have hv3 : i < us3.length := by rw [hr3.length]; exact hi'.2.2
            have hq' := kSq_mono s2 (kSq_mono s1 hq)
            have hq2' := kSq_mono s2 (kSq_mono s1 hq2)
            have hq3' := kSq_mono s2 (kSq_mono s1 hq3)
            refine ⟨⟨us, us2, us3, us[i], us2[i], us3[i], hq', hq2', hq3', List.getElem?_eq_getElem hv, List.getElem?_eq_getElem hv2, List.getElem?_eq_getElem hv3⟩, fun x H2 ⟨t, y, y2, y3, o, e, ht, ho, eH, h, h2, h3⟩ => ?_⟩
            obtain ⟨d', ed, rd'⟩ := hr.get' (h us hq')
            obtain ⟨d2', ed2, rd2'⟩ := hr2.get' (h2 us2 hq2')
            obtain ⟨d3', ed3, rd3'⟩ := hr3.get' (h3 us3 hq3')
            refine ⟨t, o, _, [d', d2', d3'], e, ht, ho, eH, ?_, rps_cons.mpr ⟨_, _, rfl, Rp.mono s1 _ _ rd', rps_cons.mpr ⟨_, _, rfl, Rp.mono s1 _ _ rd2', Rps.one (Rp.mono s1 _ _ rd3')⟩⟩⟩
            unfold zip3D
            rw [List.getElem?_zipWith, List.getElem?_zipWith, ed, ed2, ed3]
          · refine ⟨us, us2, us3, kSq_mono s2 (kSq_mono s1 hq), kSq_mono s2 (kSq_mono s1 hq2), kSq_mono s2 (kSq_mono s1 hq3), ?_⟩
            rw [hr.length, hr2.length, hr3.length]; simp [zip3D]
  · exact p1.elim
end
end DL

/-! DL10: operators at data -/
namespace DL
open PySem PySem.Spec PyProof.Rows L2

/-! ### data as the library's data -/
mutual
def toP : D → PyData
  | .non => .none | .bl b => .bool b | .int i => .int i | .str x => .str x
  | .tup ds => .tuple (toPs ds) | .lst ds => .list (toPs ds)
  | .dK _ _ => .none | .dT _ _ => .none | .ins _ _ _ => .none | .fn _ => .none | .ty _ => .none
def toPs : List D → List PyData
  | [] => []
  | d :: ds => toP d :: toPs ds
end
mutual
def sok : D → Bool
  | .non => true | .bl _ => true | .int _ => true | .str x => PyData.canLay0 (.str x)
  | .tup ds => soks ds | .lst ds => soks ds
  | .dK _ _ => false | .dT _ _ => false | .ins _ _ _ => false | .fn _ => false | .ty _ => false
def soks : List D → Bool
  | [] => true
  | d :: ds => sok d && soks ds
end
mutual
def dep : D → Nat
  | .tup ds => deps ds + 1 | .lst ds => deps ds + 1
  | _ => 0
def deps : List D → Nat
  | [] => 0
  | d :: ds => max (dep d) (deps ds)
end
mutual
def deq : D → D → Bool
  | .non, .non => true
  | .bl a, .bl b => a == b
  | .bl a, .int j => (if a then 1 else 0) == j
  | .int i, .bl b => i == (if b then 1 else 0)
  | .int i, .int j => i == j
  | .str x, .str y => x == y
  | .lst xs, .lst ys => deqs xs ys
  | .tup xs, .tup ys => deqs xs ys
  | _, _ => false
def deqs : List D → List D → Bool
  | [], [] => true
  | x :: xs, y :: ys => deq x y && deqs xs ys
  | _, _ => false
end
mutual
theorem rp_dp {K : PySem.W.Frag} {T : Tab} {H : Hp} : ∀ (d : D) (v : V), sok d = true → Rp K T H d v → Dp K H v (toP d)
  | .non, v, _, r => by rw [rp_non.mp r]; unfold toP; exact .non
  | .bl b, v, _, r => by rw [rp_bl.mp r]; unfold toP; exact .bl b
  | .int b, v, _, r => by rw [rp_int.mp r]; unfold toP; exact .int b
  | .str b, v, _, r => by rw [rp_str.mp r]; unfold toP; exact .str b
  | .tup ds, v, h, r => by
    obtain ⟨a, vs, rfl, q, r⟩ := rp_tupT r
    unfold toP
    unfold sok at h
    exact .tup q (rps_dp ds vs h r)
  | .lst ds, v, h, r => by
    obtain ⟨a, vs, rfl, q, r⟩ := rp_lst.mp r
    unfold toP
    unfold sok at h
    exact .lst q (rps_dp ds vs h r)
  | .dK _ _, v, h, r => by unfold sok at h; cases h
  | .dT _ _, v, h, r => by unfold sok at h; cases h
  | .ins _ _ _, v, h, r => by unfold sok at h; cases h
  | .fn _, v, h, r => by unfold sok at h; cases h
  | .ty _, v, h, r => by unfold sok at h; cases h
theorem rps_dp {K : PySem.W.Frag} {T : Tab} {H : Hp} : ∀ (ds : List D) (vs : List V), soks ds = true → Rps K T H ds vs → DpAll K H vs (toPs ds)
  | [], vs, _, r => by rw [rps_nil.mp r]; unfold toPs; exact .nil
  | d :: ds, vs, h, r => by
    obtain ⟨v, w, rfl, r1, r2⟩ := rps_cons.mp r
    unfold soks at h
    rw [Bool.and_eq_true] at h
    unfold toPs
    exact .cons (rp_dp d v h.1 r1) (rps_dp ds w h.2 r2)
end
mutual
theorem toP_dep : ∀ d : D, sok d = true → (toP d).depth = dep d
  | .non, _ => by unfold toP dep; simp only [PyData.depth]
  | .bl b, _ => by unfold toP dep; simp only [PyData.depth]
  | .int b, _ => by unfold toP dep; simp only [PyData.depth]
  | .str b, _ => by unfold toP dep; simp only [PyData.depth]
  | .tup ds, h => by unfold toP dep; unfold sok at h; simp only [PyData.depth]; rw [toPs_dep ds h]
  | .lst ds, h => by unfold toP dep; unfold sok at h; simp only [PyData.depth]; rw [toPs_dep ds h]
  | .dK _ _, h => by unfold sok at h; cases h
  | .dT _ _, h => by unfold sok at h; cases h
  | .ins _ _ _, h => by unfold sok at h; cases h
  | .fn _, h => by unfold sok at h; cases h
  | .ty _, h => by unfold sok at h; cases h
theorem toPs_dep : ∀ ds : List D, soks ds = true → PyData.depthAll (toPs ds) = deps ds
  | [], _ => by unfold toPs deps; simp only [PyData.depthAll]
  | d :: ds, h => by
    unfold soks at h
    rw [Bool.and_eq_true] at h
    unfold toPs deps
    simp only [PyData.depthAll]
    rw [toP_dep d h.1, toPs_dep ds h.2]
end
mutual
theorem toP_lay : ∀ d : D, sok d = true → (toP d).canLay0 = true
  | .non, _ => by unfold toP; simp only [PyData.canLay0]
  | .bl b, _ => by unfold toP; simp only [PyData.canLay0]
  | .int b, _ => by unfold toP; simp only [PyData.canLay0]
  | .str b, h => by unfold sok at h; unfold toP; exact h
  | .tup ds, h => by unfold sok at h; unfold toP; simp only [PyData.canLay0]; exact toPs_lay ds h
  | .lst ds, h => by unfold sok at h; unfold toP; simp only [PyData.canLay0]; exact toPs_lay ds h
  | .dK _ _, h => by unfold sok at h; cases h
  | .dT _ _, h => by unfold sok at h; cases h
  | .ins _ _ _, h => by unfold sok at h; cases h
  | .fn _, h => by unfold sok at h; cases h
  | .ty _, h => by unfold sok at h; cases h
theorem toPs_lay : ∀ ds : List D, soks ds = true → PyData.canLayAll0 (toPs ds) = true
  | [], _ => by unfold toPs; simp only [PyData.canLayAll0]
  | d :: ds, h => by
    unfold soks at h
    rw [Bool.and_eq_true] at h
    unfold toPs
    simp only [PyData.canLayAll0]
    rw [toP_lay d h.1, toPs_lay ds h.2]; rfl
end
theorem toP_shaped {d : D} (h : sok d = true) (hd : dep d ≤ 20) : SeqAt.shaped (toP d) = true := by
  show ((toP d).canLay0 && decide ((toP d).depth ≤ 64)) = true
  rw [toP_lay d h, toP_dep d h, Bool.true_and, decide_eq_true_eq]
  omega
mutual
theorem deq_eqv : ∀ d e : D, sok d = true → sok e = true → PyData.eqv (toP d) (toP e) = deq d e
  | .non, e, _, he => by cases e <;> first | (unfold sok at he; cases he; done) | (unfold toP; simp only [PyData.eqv, deq])
  | .bl _, e, _, he => by cases e <;> first | (unfold sok at he; cases he; done) | (unfold toP; simp only [PyData.eqv, deq])
  | .int _, e, _, he => by cases e <;> first | (unfold sok at he; cases he; done) | (unfold toP; simp only [PyData.eqv, deq])
  | .str _, e, _, he => by cases e <;> first | (unfold sok at he; cases he; done) | (unfold toP; simp only [PyData.eqv, deq])
  | .tup xs, e, h, he => by
    cases e <;> first | (unfold sok at he; cases he; done) | skip
    case tup ys => unfold sok at h he; unfold toP; simp only [PyData.eqv, deq]; exact deqs_eqv xs ys h he
    all_goals (unfold toP; simp only [PyData.eqv, deq])
  | .lst xs, e, h, he => by
    cases e <;> first | (unfold sok at he; cases he; done) | skip
    case lst ys => unfold sok at h he; unfold toP; simp only [PyData.eqv, deq]; exact deqs_eqv xs ys h he
    all_goals (unfold toP; simp only [PyData.eqv, deq])
  | .dK _ _, e, h, he => by unfold sok at h; cases h
  | .dT _ _, e, h, he => by unfold sok at h; cases h
  | .ins _ _ _, e, h, he => by unfold sok at h; cases h
  | .fn _, e, h, he => by unfold sok at h; cases h
  | .ty _, e, h, he => by unfold sok at h; cases h
theorem deqs_eqv : ∀ ds es : List D, soks ds = true → soks es = true → PyData.eqvAll (toPs ds) (toPs es) = deqs ds es
  | [], [], _, _ => by unfold toPs; simp only [PyData.eqvAll, deqs]
  | [], e :: es, _, _ => by unfold toPs; simp only [PyData.eqvAll, deqs]
  | d :: ds, [], _, _ => by unfold toPs; simp only [PyData.eqvAll, deqs]
  | d :: ds, e :: es, h, h' => by
    unfold soks at h h'
    rw [Bool.and_eq_true] at h h'
    unfold toPs
    simp only [PyData.eqvAll, deqs]
    rw [deq_eqv d e h.1 h'.1, deqs_eqv ds es h.2 h'.2]
end
def okq (d : D) : Bool := sok d && decide (dep d ≤ 20)
def gEq (d1 d2 : D) : Option D := if okq d1 && okq d2 then some (.bl (deq d1 d2)) else none
def gNe (d1 d2 : D) : Option D := if okq d1 && okq d2 then some (.bl (!deq d1 d2)) else none
theorem op2_eq {K : PySem.W.Frag} {T : Tab} : Op2 K T gEq (rEqD K) := fun d1 d2 d x y H Q e r1 r2 q => by
  unfold gEq at e
  split at e
  · rename_i h
    cases e
    rw [Bool.and_eq_true, okq, okq, Bool.and_eq_true, Bool.and_eq_true, decide_eq_true_eq, decide_eq_true_eq] at h
    refine ⟨rfl, _, _, rp_dp d1 x h.1.1 r1, rp_dp d2 y h.2.1 r2, toP_shaped h.1.1 h.1.2, toP_shaped h.2.1 h.2.2, ?_⟩
    rw [deq_eqv d1 d2 h.1.1 h.2.1]
    exact q _ (rp_bl.mpr rfl)
  · cases e
theorem op2_ne {K : PySem.W.Frag} {T : Tab} : Op2 K T gNe (rNeD K) := fun d1 d2 d x y H Q e r1 r2 q => by
  unfold gNe at e
  split at e
  · rename_i h
    cases e
    rw [Bool.and_eq_true, okq, okq, Bool.and_eq_true, Bool.and_eq_true, decide_eq_true_eq, decide_eq_true_eq] at h
    refine ⟨rfl, _, _, rp_dp d1 x h.1.1 r1, rp_dp d2 y h.2.1 r2, toP_shaped h.1.1 h.1.2, toP_shaped h.2.1 h.2.2, ?_⟩
    rw [deq_eqv d1 d2 h.1.1 h.2.1]
    exact q _ (rp_bl.mpr rfl)
  · cases e

/-! ### ints -/
def gII (C : Int → Int → Bool) (f : Int → Int → D) : D → D → Option D
  | .int i, .int j => if C i j then some (f i j) else none
  | _, _ => none
theorem op2_ii {K : PySem.W.Frag} {T : Tab} {C : Int → Int → Bool} {C' : Int → Int → Prop} {f : Int → Int → D} {f' : Int → Int → V} (hC : ∀ i j, C i j = true → C' i j) (hf : ∀ i j H, Rp K T H (f i j) (f' i j)) (hl : ∀ i j, flat (f i j) = true) : Op2 K T (gII C f) (rI C' f') := fun d1 d2 d x y H Q e r1 r2 q => by
  cases d1 <;> first | (cases e; done) | skip
  cases d2 <;> first | (cases e; done) | skip
  rename_i i j
  have e : (if C i j then some (f i j) else none) = some d := e
  by_cases h : C i j = true
  · rw [if_pos h] at e
    cases e
    exact ⟨hl i j, i, j, rp_int.mp r1, rp_int.mp r2, hC i j h, q _ (hf i j H)⟩
  · rw [if_neg h] at e; cases e
theorem rI0_of {C : Int → Int → Prop} {g : Int → Int → V} {x y : V} {H : Hp} {Q : VK} (h : rI C g x y H Q) : rI0 g x y H Q := let ⟨i, j, a, b, _, q⟩ := h; ⟨i, j, a, b, q⟩
theorem OpR.of0 {X : Cx} {f : Value → Value → Sem Value} {g : Int → Int → V} (h : OpR X f (rI0 g)) : OpR X f (rI (fun _ _ => True) g) := fun pins s σ H x y v u Q I rx ry q => h pins s σ H x y v u Q I rx ry (rI0_of q)
abbrev tt2 : Int → Int → Bool := fun _ _ => true
def gSub := gII tt2 fun i j => .int (i - j)
def cdiv (i j : Int) : Bool := decide (j ≠ 0) && decide (j.natAbs < 1073741824)
def gFdiv := gII cdiv fun i j => .int (i.fdiv j)
def cmod (i j : Int) : Bool := decide (j ≠ 0)
def gMod := gII cmod fun i j => .int (i.fmod j)
def cpow (i j : Int) : Bool := decide (0 ≤ j) && decide (j ≤ 1000000) && decide (i.natAbs < 2 ^ 64)
def gPow := gII cpow fun i j => .int (i ^ j.toNat)
def gLt := gII tt2 fun i j => .bl (decide (i < j))
def gLe := gII tt2 fun i j => .bl (decide (i ≤ j))
def gGt := gII tt2 fun i j => .bl (decide (j < i))
def gGe := gII tt2 fun i j => .bl (decide (j ≤ i))

section
variable {X : Cx} {T : Tab} {W : WX} {e a b c : Expr} {es : List Expr} {f fa fb fc : En → O R} {fs : En → O (List R)} {pos : Pos}
theorem de_sub (ha : DE X T W a fa) (hb : DE X T W b fb) : DE X T W (.BinOp a .Sub b pos) (dOp2 gSub fa fb) :=
  de_op (OpR.of0 op_sub) (op2_ii (fun _ _ _ => trivial) (fun _ _ _ => rp_int.mpr rfl) (fun _ _ => rfl)) ha hb
theorem de_fdiv (ha : DE X T W a fa) (hb : DE X T W b fb) : DE X T W (.BinOp a .FloorDiv b pos) (dOp2 gFdiv fa fb) :=
  de_op op_fdivN (op2_ii (fun i j h => by
    unfold cdiv at h
    rw [Bool.and_eq_true, decide_eq_true_eq, decide_eq_true_eq] at h
    exact h) (fun _ _ _ => rp_int.mpr rfl) (fun _ _ => rfl)) ha hb
theorem de_mod (ha : DE X T W a fa) (hb : DE X T W b fb) : DE X T W (.BinOp a .Mod b pos) (dOp2 gMod fa fb) :=
  de_op op_modN (op2_ii (fun i j h => by
    unfold cmod at h
    exact of_decide_eq_true h) (fun _ _ _ => rp_int.mpr rfl) (fun _ _ => rfl)) ha hb
theorem de_pow (ha : DE X T W a fa) (hb : DE X T W b fb) : DE X T W (.BinOp a .Pow b pos) (dOp2 gPow fa fb) :=
  de_op op_pow (op2_ii (fun i j h => by
    unfold cpow at h
    rw [Bool.and_eq_true, Bool.and_eq_true, decide_eq_true_eq, decide_eq_true_eq, decide_eq_true_eq] at h
    exact ⟨h.1.1, h.1.2, h.2⟩) (fun _ _ _ => rp_int.mpr rfl) (fun _ _ => rfl)) ha hb
theorem op2_lt {K : PySem.W.Frag} : Op2 K T gLt (rI (fun _ _ => True) fun i j => .bl (decide (i < j))) := op2_ii (fun _ _ _ => trivial) (fun _ _ _ => rp_bl.mpr rfl) (fun _ _ => rfl)
theorem op2_le {K : PySem.W.Frag} : Op2 K T gLe (rI (fun _ _ => True) fun i j => .bl (decide (i ≤ j))) := op2_ii (fun _ _ _ => trivial) (fun _ _ _ => rp_bl.mpr rfl) (fun _ _ => rfl)
theorem op2_gt {K : PySem.W.Frag} : Op2 K T gGt (rI (fun _ _ => True) fun i j => .bl (decide (j < i))) := op2_ii (fun _ _ _ => trivial) (fun _ _ _ => rp_bl.mpr rfl) (fun _ _ => rfl)
theorem op2_ge {K : PySem.W.Frag} : Op2 K T gGe (rI (fun _ _ => True) fun i j => .bl (decide (j ≤ i))) := op2_ii (fun _ _ _ => trivial) (fun _ _ _ => rp_bl.mpr rfl) (fun _ _ => rfl)
theorem de_lt (ha : DE X T W a fa) (hb : DE X T W b fb) : DE X T W (.Compare a [.Lt] [b] pos) (dOp2 gLt fa fb) := de_cmp (OpR.of0 op_lt) op2_lt ha hb (nomark _)
theorem de_le (ha : DE X T W a fa) (hb : DE X T W b fb) : DE X T W (.Compare a [.LtE] [b] pos) (dOp2 gLe fa fb) := de_cmp (OpR.of0 op_le) op2_le ha hb (nomark _)
theorem de_gt (ha : DE X T W a fa) (hb : DE X T W b fb) : DE X T W (.Compare a [.Gt] [b] pos) (dOp2 gGt fa fb) := de_cmp (OpR.of0 op_gt) op2_gt ha hb (nomark _)
theorem de_ge (ha : DE X T W a fa) (hb : DE X T W b fb) : DE X T W (.Compare a [.GtE] [b] pos) (dOp2 gGe fa fb) := de_cmp (OpR.of0 op_ge) op2_ge ha hb (nomark _)
theorem dt_lt (ha : DE X T W a fa) (hb : DE X T W b fb) : DT X T W (.Compare a [.Lt] [b] pos) (dTst (dOp2 gLt fa fb)) := dt_cmp (OpR.of0 op_lt) op2_lt ha hb (nomark _)
theorem dt_le (ha : DE X T W a fa) (hb : DE X T W b fb) : DT X T W (.Compare a [.LtE] [b] pos) (dTst (dOp2 gLe fa fb)) := dt_cmp (OpR.of0 op_le) op2_le ha hb (nomark _)
theorem dt_gt (ha : DE X T W a fa) (hb : DE X T W b fb) : DT X T W (.Compare a [.Gt] [b] pos) (dTst (dOp2 gGt fa fb)) := dt_cmp (OpR.of0 op_gt) op2_gt ha hb (nomark _)
theorem dt_ge (ha : DE X T W a fa) (hb : DE X T W b fb) : DT X T W (.Compare a [.GtE] [b] pos) (dTst (dOp2 gGe fa fb)) := dt_cmp (OpR.of0 op_ge) op2_ge ha hb (nomark _)
theorem de_eq (hu : X.A.units + 64 < cLine) (ha : DE X T W a fa) (hb : DE X T W b fb) : DE X T W (.Compare a [.Eq] [b] pos) (dOp2 gEq fa fb) := de_cmp (op_eqD hu) op2_eq ha hb (nomark _)
theorem de_ne (hu : X.A.units + 64 < cLine) (ha : DE X T W a fa) (hb : DE X T W b fb) : DE X T W (.Compare a [.NotEq] [b] pos) (dOp2 gNe fa fb) := de_cmp (op_neD hu) op2_ne ha hb (nomark _)
theorem dt_eq (hu : X.A.units + 64 < cLine) (ha : DE X T W a fa) (hb : DE X T W b fb) : DT X T W (.Compare a [.Eq] [b] pos) (dTst (dOp2 gEq fa fb)) := dt_cmp (op_eqD hu) op2_eq ha hb (nomark _)
theorem dt_ne (hu : X.A.units + 64 < cLine) (ha : DE X T W a fa) (hb : DE X T W b fb) : DT X T W (.Compare a [.NotEq] [b] pos) (dTst (dOp2 gNe fa fb)) := dt_cmp (op_neD hu) op2_ne ha hb (nomark _)
end
end DL

/-! DL11: operators and functions with any answer: data read one level deep; +, *, subscripts, slices, in -/
namespace DL
open PySem PySem.Spec PyProof.Rows L2

section
variable {K : PySem.W.Frag} {T : Tab} {W : WX} {F0 H0 F H F' H' : Hp} {σ0 σ : L2.St} {ε0 ε ε' : En}
/-- a datum read now, its parts for good -/
def RpI (K : PySem.W.Frag) (T : Tab) (F H : Hp) (d : D) (v : V) : Prop :=
  match d with
  | .lst ds => ∃ a vs, v = .ref a ∧ SqL K H a vs ∧ Rps K T F ds vs
  | .tup ds => ∃ a vs, v = .ref a ∧ SqN K F a vs ∧ Rps K T F ds vs
  | .dK ks ds => ∃ a vs, v = .ref a ∧ Rd H a (.dK (ks.zip vs)) ∧ ks.length = ds.length ∧ Rps K T F ds vs
  | .dT ks ds => ∃ a vs, v = .ref a ∧ Rd H a (.dT (ks.zip vs)) ∧ ks.length = ds.length ∧ Rps K T F ds vs
  | .ins c fs ds => ∃ a dx vs, v = .ref a ∧ H a = some (.ins (T.cls c) dx (fs.zip vs)) ∧ fs.length = ds.length ∧ Rps K T F ds vs
  | .non => v = .non | .bl b => v = .bl b | .int i => v = .int i | .str x => v = .str x | .fn n => v = .ref (T.fn n) | .ty n => v = .ty n
theorem rp_rpi (s : Same F H) {d : D} {v : V} (h : Rp K T F d v) : RpI K T F H d v := by
  cases d with
  | lst ds => obtain ⟨a, vs, e, q, r⟩ := rp_lst.mp h; exact ⟨a, vs, e, sqL_mono s q, r⟩
  | tup ds => exact rp_tup.mp h
  | dK ks ds => obtain ⟨a, vs, e, q, r⟩ := rp_dK.mp h; exact ⟨a, vs, e, rd_mono s q, r⟩
  | dT ks ds => obtain ⟨a, vs, e, q, r⟩ := rp_dT.mp h; exact ⟨a, vs, e, rd_mono s q, r⟩
  | ins c fs ds => obtain ⟨a, dx, vs, e, q, r⟩ := rp_ins.mp h; exact ⟨a, dx, vs, e, s _ _ q, r⟩
  | non => exact rp_non.mp h
  | bl b => exact rp_bl.mp h
  | int b => exact rp_int.mp h
  | str b => exact rp_str.mp h
  | fn b => exact rp_fn.mp h
  | ty b => exact rp_ty.mp h
theorem rpo_rpi {d : D} {o : HO} {a : Addr} (h : RpO K T F d o) (e : H a = some o) : RpI K T F H d (.ref a) := by
  unfold RpO at h
  split at h
  · exact ⟨a, _, rfl, .inl (.inl e), h⟩
  · obtain ⟨vs, e', l, h⟩ := h
    subst e'
    exact ⟨a, vs, rfl, .inl e, l, h⟩
  · obtain ⟨vs, e', l, h⟩ := h
    subst e'
    exact ⟨a, vs, rfl, .inl e, l, h⟩
  · obtain ⟨ec, vs, e', l, h⟩ := h
    subst e' ec
    exact ⟨a, _, vs, rfl, e, l, h⟩
  · exact h.elim
theorem res_rpi {r : R} {v : V} {d : D} (k : Ok K T F H σ ε) (h : RpR K T F H σ ε r v) (e : res ε r = some d) : RpI K T F H d v := by
  cases r with
  | fz d' => cases e; exact rp_rpi k.sub h
  | new d' =>
    cases e
    obtain ⟨a, o, rfl, _, g, q, _⟩ := h
    exact rpo_rpi q g
  | «at» i =>
    have e := res_at e
    obtain ⟨a, o, s, _, g, q⟩ := k.own i d e
    have h : σ[i]? = some (some v) := h
    rw [s] at h
    cases h
    exact rpo_rpi q g
theorem rpi_int {i : Int} {v : V} (h : RpI K T F H (.int i) v) : v = .int i := h
theorem rpi_bl {i : Bool} {v : V} (h : RpI K T F H (.bl i) v) : v = .bl i := h
theorem rpi_str {i : Str} {v : V} (h : RpI K T F H (.str i) v) : v = .str i := h
theorem rpi_flat {d : D} {v : V} (hf : flat d = true) (h : RpI K T F H d v) : Rp K T F' d v := by
  cases d with
  | non => exact rp_non.mpr h
  | bl b => exact rp_bl.mpr h
  | int b => exact rp_int.mpr h
  | str b => exact rp_str.mpr h
  | fn b => exact rp_fn.mpr h
  | ty b => exact rp_ty.mpr h
  | _ => cases hf
theorem rpi_rp (s : Same F H) {d : D} {v : V} (h : RpI K T F H d v) : Rp K T H d v := by
  cases d with
  | lst ds => obtain ⟨a, vs, e, q, r⟩ := h; exact rp_lst.mpr ⟨a, vs, e, q, Rps.mono s _ _ r⟩
  | tup ds => obtain ⟨a, vs, e, q, r⟩ := h; exact rp_tup.mpr ⟨a, vs, e, q.mono s, Rps.mono s _ _ r⟩
  | dK ks ds => obtain ⟨a, vs, e, q, l, r⟩ := h; exact rp_dK.mpr ⟨a, vs, e, q, l, Rps.mono s _ _ r⟩
  | dT ks ds => obtain ⟨a, vs, e, q, l, r⟩ := h; exact rp_dT.mpr ⟨a, vs, e, q, l, Rps.mono s _ _ r⟩
  | ins c fs ds => obtain ⟨a, dx, vs, e, q, l, r⟩ := h; exact rp_ins.mpr ⟨a, dx, vs, e, q, l, Rps.mono s _ _ r⟩
  | non => exact rp_non.mpr h
  | bl b => exact rp_bl.mpr h
  | int b => exact rp_int.mpr h
  | str b => exact rp_str.mpr h
  | fn b => exact rp_fn.mpr h
  | ty b => exact rp_ty.mpr h
def RpIs (K : PySem.W.Frag) (T : Tab) (F H : Hp) : List D → List V → Prop
  | [], vs => vs = []
  | d :: ds, vs => ∃ v r, vs = v :: r ∧ RpI K T F H d v ∧ RpIs K T F H ds r
theorem ress_rpis : ∀ {rs : List R} {vs : List V} {ds : List D}, Ok K T F H σ ε → RpRs K T F H σ ε rs vs → ress ε rs = some ds → RpIs K T F H ds vs
  | [], vs, ds, k, h, e => by cases e; exact h
  | r :: rs, vs, ds, k, h, e => by
    obtain ⟨v, w, rfl, h1, h2⟩ := h
    have e : (match res ε r, ress ε rs with | some d, some ds => some (d :: ds) | _, _ => none) = some ds := e
    cases e1 : res ε r with
    | none => simp only [e1] at e; cases e
    | some d =>
      cases e2 : ress ε rs with
      | none => simp only [e1, e2] at e; cases e
      | some es =>
        simp only [e1, e2] at e
        cases e
        exact ⟨v, w, rfl, res_rpi k h1 e1, ress_rpis k h2 e2⟩
theorem rpis1 {d : D} {vs : List V} (h : RpIs K T F H [d] vs) : ∃ v, vs = [v] ∧ RpI K T F H d v := by
  obtain ⟨v, w, rfl, h1, h2⟩ := h
  have h2 : w = [] := h2
  subst h2
  exact ⟨v, rfl, h1⟩
theorem rpis2 {d d2 : D} {vs : List V} (h : RpIs K T F H [d, d2] vs) : ∃ v v2, vs = [v, v2] ∧ RpI K T F H d v ∧ RpI K T F H d2 v2 := by
  obtain ⟨v, w, rfl, h1, h2⟩ := h
  obtain ⟨v2, e2, h3⟩ := rpis1 h2
  subst e2
  exact ⟨v, v2, rfl, h1, h3⟩

/-- an answer: a datum for good, a new object, a tuple (a new one or not) -/
inductive An where
  | fz (d : D) | nw (d : D) | nt (ds : List D)
def An.r : An → R
  | .fz d => .fz d
  | .nw d => .new d
  | .nt ds => .fz (.tup ds)
def An.ok (K : PySem.W.Frag) (T : Tab) (F H : Hp) (a : An) (Q : VK) : Prop :=
  match a with
  | .fz d => ∀ v, Rp K T F d v → Q v H
  | .nw d => ∀ p o, H p = none → RpO K T F d o → Q (.ref p) (upd H p o)
  | .nt ds => (∀ p o vs, H p = none → o.dict = none → Rps K T F ds vs → Q (.ref p) (upd H p (.frz o (.tup vs)))) ∧ ∀ v, Rp K T F (.tup ds) v → Q v H
theorem An.run {a : An} {Q : VK} (k : Ok K T F H σ ε) (x : Ext F0 H0 σ ε0 F H σ ε) (p : Po K T W F0 H0 σ ε0 (.ok a.r ε) (SE K T H0 σ Q)) : a.ok K T F H Q := by
  cases a with
  | fz d => exact fun v hv => SE.fin k x p hv (by simp [An.r, newA])
  | nw d => exact fun q o hq r => SE.new k x p hq r
  | nt ds => exact ⟨fun q o vs hq ho r => SE.newT k x p hq r ho, fun v hv => SE.fin k x p hv (by simp [An.r, newA])⟩
end

section
variable {X : Cx} {T : Tab} {W : WX} {e a b c : Expr} {es : List Expr} {f fa fb fc : En → O R} {fs : En → O (List R)} {pos p : Pos}
/-! ### two operands -/
def OpA (K : PySem.W.Frag) (T : Tab) (g : D → D → Option An) (r : R2) : Prop :=
  ∀ d1 d2 a x y F H Q, g d1 d2 = some a → RpI K T F H d1 x → RpI K T F H d2 y → Same F H → An.ok K T F H a Q → r x y H Q
def vAn (ε : En) (o : Option An) : O R :=
  match o with
  | some a => .ok a.r ε
  | none => .bad
def vOpA (g : D → D → Option An) (ε : En) (r1 r2 : R) : O R :=
  match res ε r1, res ε r2 with
  | some d1, some d2 => vAn ε (g d1 d2)
  | _, _ => .bad
def dOpA (g : D → D → Option An) (fa fb : En → O R) : En → O R := fun ε => (fa ε).bind fun r1 ε1 => (fb ε1).bind fun r2 ε2 => vOpA g ε2 r1 r2
theorem opA_use {g : D → D → Option An} {r : R2} (hg : OpA X.K T g r) {σ : L2.St} {H : Hp} {Q : VK} (q : tD X.K T W (dOpA g fa fb) σ H Q) : tOp r (tD X.K T W fa) (tD X.K T W fb) σ H Q := by
  obtain ⟨F, ε, k, p⟩ := q
  refine two_use (g := fun r1 r2 ε2 => vOpA g ε2 r1 r2) k Ext.refl p fun v1 v2 F2 H2 r1 r2 ε2 k2 _ x2 q1 q2 n1 n2 nd p2 => ?_
  unfold vOpA at p2
  cases e1 : res ε2 r1 with
  | none => simp only [e1] at p2; exact p2.elim
  | some d1 =>
    cases e2 : res ε2 r2 with
    | none => simp only [e1, e2] at p2; exact p2.elim
    | some d2 =>
      simp only [e1, e2] at p2
      cases e3 : g d1 d2 with
      | none => rw [e3] at p2; exact p2.elim
      | some a =>
        rw [e3] at p2
        exact hg d1 d2 a v1 v2 F2 H2 Q e3 (res_rpi k2 q1 e1) (res_rpi k2 q2 e2) k2.sub (An.run k2 x2 p2)
theorem de_opA {op : Operator} {g : D → D → Option An} {r : R2} (ho : OpR X (binaryOp op) r) (hg : OpA X.K T g r) (ha : DE X T W a fa) (hb : DE X T W b fb) : DE X T W (.BinOp a op b pos) (dOpA g fa fb) :=
  PE.imp (pe_op ho ha hb) fun _ _ _ q => opA_use hg q
theorem de_ixA {g : D → D → Option An} {r : R2} (ho : IxR X r) (hg : OpA X.K T g r) (ha : DE X T W a fa) (hb : DE X T W b fb) (hs : PlainIx b := by intro _ _; rfl) : DE X T W (.Subscript a b pos) (dOpA g fa fb) :=
  PE.imp (pe_ix ho ha hb hs) fun _ _ _ q => opA_use hg q
/-! ### functions of builtins -/
def FnA (K : PySem.W.Frag) (T : Tab) (g : List D → Option An) (r : List V → Hp → VK → Prop) : Prop :=
  ∀ ds a vs F H Q, g ds = some a → RpIs K T F H ds vs → Same F H → An.ok K T F H a Q → r vs H Q
def vFn (g : List D → Option An) (ε : En) (rs : List R) : O R :=
  match ress ε rs with
  | some ds => vAn ε (g ds)
  | none => .bad
def dFn (g : List D → Option An) (fs : En → O (List R)) : En → O R := fun ε => (fs ε).bind fun rs ε1 => vFn g ε1 rs
theorem fnA_use {g : List D → Option An} {r : List V → Hp → VK → Prop} (hg : FnA X.K T g r) {σ : L2.St} {H : Hp} {Q : VK} (q : tD X.K T W (dFn g fs) σ H Q) : tCB r (tDA X.K T W fs) σ H Q := by
  obtain ⟨F, ε, k, p⟩ := q
  refine tDA_use (g := fun rs ε1 => vFn g ε1 rs) k Ext.refl p fun vs F1 H1 rs ε1 k1 _ x1 q1 n1 nd p1 => ?_
  unfold vFn at p1
  cases e1 : ress ε1 rs with
  | none => simp only [e1] at p1; exact p1.elim
  | some ds =>
    simp only [e1] at p1
    cases e2 : g ds with
    | none => rw [e2] at p1; exact p1.elim
    | some a =>
      rw [e2] at p1
      exact hg ds a vs F1 H1 Q e2 (ress_rpis k1 q1 e1) k1.sub (An.run k1 x1 p1)
theorem de_fn {x : Str} {id : String} {g : List D → Option An} {r : List V → Hp → VK → Prop} (hc : CallR X (.builtin id) r) (hg : FnA X.K T g r) (gl : Gl X x) (hm : X.mg x = none) (ha : DA X T W (e :: es) fs) (hv : bootBuiltins x = some (.builtin id) := by decide +kernel) (hn : x ≠ "__name__" := by decide) (hdb : (x == ("__debug__" : Str)) = false := by decide)
    (he : starEach (e :: es) X.env = (false, eval e X.env) :: starEach es X.env := by rfl) (hpl : (backTo pos (starEach es X.env)).any (·.1) = false := by rfl) : DE X T W (.Call (.Name x p) (e :: es) [] pos) (dFn g fs) :=
  PE.imp (pe_callB hc gl hm hv ha hn hdb he hpl) fun _ _ _ q => fnA_use hg q
theorem de_fnTy {x : Str} {id : String} {g : List D → Option An} {r : List V → Hp → VK → Prop} (hc : CallR X (.type id) r) (hg : FnA X.K T g r) (gl : Gl X x) (hm : X.mg x = none) (ha : DA X T W (e :: es) fs) (hv : bootBuiltins x = some (.type id) := by decide +kernel) (hn : x ≠ "__name__" := by decide) (hdb : (x == ("__debug__" : Str)) = false := by decide)
    (he : starEach (e :: es) X.env = (false, eval e X.env) :: starEach es X.env := by rfl) (hpl : (backTo pos (starEach es X.env)).any (·.1) = false := by rfl) : DE X T W (.Call (.Name x p) (e :: es) [] pos) (dFn g fs) :=
  PE.imp (pe_callTy hc gl hm hv ha hn hdb he hpl) fun _ _ _ q => fnA_use hg q
/-- a built-in type as a value -/
theorem de_ty {x : Str} {n : String} (gl : Gl X x) (hm : X.mg x = none) (hv : bootBuiltins x = some (.type n) := by decide +kernel) (hn : x ≠ "__name__" := by decide) (hdb : (x == ("__debug__" : Str)) = false := by decide) : DE X T W (.Name x pos) (dC (.ty n)) :=
  de_const (pe_bltn (v := .ty n) gl hm hv rfl hn hdb) fun _ => rp_ty.mpr rfl

/-! ### + -/
def big : Nat := 1000000
def gAdd : D → D → Option An
  | .int i, .int j => some (.fz (.int (i + j)))
  | .str x, .str y => if x.length + y.length ≤ big then some (.fz (.str (x ++ y))) else none
  | .tup xs, .tup ys => if xs.length + ys.length ≤ big then some (.nt (xs ++ ys)) else none
  | .lst xs, .lst ys => if xs.length + ys.length ≤ big then some (.nw (.lst (xs ++ ys))) else none
  | _, _ => none
theorem bigLine {n : Nat} (h : n ≤ big) : n ≤ sizeLine := line1M h
/-- list + list, whoever holds them -/
def rCatL (K : PySem.W.Frag) : R2 := fun x y H Q => ∃ a b xs ys, x = .ref a ∧ y = .ref b ∧ SqL K H a xs ∧ SqL K H b ys ∧ xs.length + ys.length ≤ sizeLine ∧ ∀ p, H p = none → Q (.ref p) (upd H p (.lst (xs ++ ys)))
theorem op_catL : OpR X (binaryOp .Add) (rCatL X.K) := by
  intro pins s σ H x y v u Q I rx ry h
  obtain ⟨a, b, xs, ys, rfl, rfl, ha, hb, hz, q⟩ := h
  cases rx
  cases ry
  obtain ⟨its, r1, ⟨⟨c1, dd, dt1, sl1⟩, n1, h1, k1, dn1, dd1⟩, _⟩ := I.list ha
  obtain ⟨its2, r2, ⟨⟨c2, dd2, dt2, sl2⟩, n2, h2, k2, dn2, dd2'⟩, _⟩ := I.list hb
  simp only at k1 dn1 dd1 k2 dn2 dd2'
  subst k1 dn1 dd1 k2 dn2 dd2'
  have hs : its.toArray.size + its2.toArray.size ≤ sizeLine := by
    have l1 := r1.length
    have l2 := r2.length
    rw [List.size_toArray, List.size_toArray]
    omega
  refine concat_meets ⟨_, h1, rfl⟩ ⟨_, h2, rfl⟩ noFill_list_add seq_list_add PySem.F.slot_list_add PySem.F.entry_list_add (PySem.F.args_list_add_2 _ _) (list_addW a b its.toArray its2.toArray n1 n2 none none sl1 sl2 hs) ⟨h1, h2, ?_⟩
  have ea : its.toArray ++ its2.toArray = (its ++ its2).toArray := by simp
  rw [ea]
  exact ⟨.ref s.heap.objs.size, _, I.lnew (t' := s.toks) (r1.append r2) (by rw [List.length_append]; exact hz), rfl, q _ (I.hok.fresh (Nat.le_refl _))⟩
/-- tuple + tuple, the new one's object known -/
def rCatN (K : PySem.W.Frag) : R2 := fun x y H Q => ∃ a b xs ys, x = .ref a ∧ y = .ref b ∧ SqT K H a xs ∧ SqT K H b ys ∧ xs.length + ys.length ≤ sizeLine ∧
  (xs = [] → Q (.ref b) H) ∧ (xs ≠ [] → ys = [] → Q (.ref a) H) ∧ (xs ≠ [] → ys ≠ [] → NewT Q H (xs ++ ys))
theorem op_catN : OpR X (binaryOp .Add) (rCatN X.K) := by
  intro pins s σ H x y v u Q I rx ry h
  obtain ⟨a, b, xs, ys, rfl, rfl, ha, hb, hz, q0, q1, q2⟩ := h
  by_cases hx : xs = []
  · subst hx
    refine op_catA pins s σ H _ _ v u Q I rx ry ⟨a, b, [], ys, rfl, rfl, ha, hb, hz, q0, fun z => absurd rfl z, fun z => absurd rfl z⟩
  · cases rx
    cases ry
    obtain ⟨its, r1, p1, _⟩ := I.tuple ha
    obtain ⟨its2, r2, p2, _⟩ := I.tuple hb
    refine HT.cat_tup p1 p2 (fun z => hx (r1.nil_iff.mp z)) (fun z => ⟨.ref a, H, I, rfl, q1 hx (r2.nil_iff.mp z)⟩) (fun z => ?_) (by rw [← r1.length, ← r2.length]; exact hz)
    exact ⟨.ref s.heap.objs.size, _, I.laid (t' := s.toks) (fun b ob q => Heap.get?_push_of_some _ q) (Nat.le_refl _) (tup_new (Heap.get?_push_size _ rfl) rfl (r1.append r2) (by rw [List.length_append]; exact hz)), rfl, q2 hx (fun w => z (r2.nil_iff.mpr w)) _ _ (I.hok.fresh (Nat.le_refl _)) rfl⟩
def rAddA (K : PySem.W.Frag) : R2 := fun x y H Q => rI0 (fun i j => .int (i + j)) x y H Q ∨ (∃ i j, x = .str i ∧ y = .str j ∧ i.length + j.length ≤ sizeLine ∧ Q (.str (i ++ j)) H) ∨ rCatN K x y H Q ∨ rCatL K x y H Q
theorem op_addA : OpR X (binaryOp .Add) (rAddA X.K) := op_add.or (op_add_str.or (op_catN.or op_catL))
theorem opA_add {K : PySem.W.Frag} : OpA K T gAdd (rAddA K) := fun d1 d2 a x y F H Q e r1 r2 s q => by
  cases d1 <;> first | (cases e; done) | skip
  case int i =>
    cases d2 <;> first | (cases e; done) | skip
    rename_i j
    cases e
    exact .inl ⟨i, j, r1, r2, q _ (rp_int.mpr rfl)⟩
  case str i =>
    cases d2 <;> first | (cases e; done) | skip
    rename_i j
    have e : (if i.length + j.length ≤ big then some (An.fz (.str (i ++ j))) else none) = some a := e
    by_cases h : i.length + j.length ≤ big
    · rw [if_pos h] at e
      cases e
      exact .inr (.inl ⟨i, j, r1, r2, bigLine h, q _ (rp_str.mpr rfl)⟩)
    · rw [if_neg h] at e; cases e
  case tup xs =>
    cases d2 <;> first | (cases e; done) | skip
    rename_i ys
    have e : (if xs.length + ys.length ≤ big then some (An.nt (xs ++ ys)) else none) = some a := e
    by_cases h : xs.length + ys.length ≤ big
    · rw [if_pos h] at e
      cases e
      obtain ⟨a, vs, rfl, hq, hr⟩ := r1
      obtain ⟨b, us, rfl, hq2, hr2⟩ := r2
      obtain ⟨qn, qo⟩ := q
      refine .inr (.inr (.inl ⟨a, b, vs, us, rfl, rfl, (hq.mono s).t, (hq2.mono s).t, by rw [hr.length, hr2.length]; exact bigLine h, fun z => ?_, fun _ z => ?_, fun _ _ p o hp ho => qn p o _ hp ho (hr.append hr2)⟩))
      · refine qo _ (rp_tup.mpr ⟨b, us, rfl, hq2, ?_⟩)
        have := hr.append hr2
        rw [z] at this
        exact this
      · refine qo _ (rp_tup.mpr ⟨a, vs, rfl, hq, ?_⟩)
        have := hr.append hr2
        rw [z, List.append_nil] at this
        exact this
    · rw [if_neg h] at e; cases e
  case lst xs =>
    cases d2 <;> first | (cases e; done) | skip
    rename_i ys
    have e : (if xs.length + ys.length ≤ big then some (An.nw (.lst (xs ++ ys))) else none) = some a := e
    by_cases h : xs.length + ys.length ≤ big
    · rw [if_pos h] at e
      cases e
      obtain ⟨a, vs, rfl, hq, hr⟩ := r1
      obtain ⟨b, us, rfl, hq2, hr2⟩ := r2
      exact .inr (.inr (.inr ⟨a, b, vs, us, rfl, rfl, hq, hq2, by rw [hr.length, hr2.length]; exact bigLine h, fun p hp => q p _ hp (rpO_lst.mpr ⟨_, rfl, hr.append hr2⟩)⟩))
    · rw [if_neg h] at e; cases e
theorem de_add (ha : DE X T W a fa) (hb : DE X T W b fb) : DE X T W (.BinOp a .Add b pos) (dOpA gAdd fa fb) := de_opA op_addA opA_add ha hb

/-! ### xs[i] -/
def gIx : D → D → Option An
  | .lst ds, .int i => (atI ds i).map .fz
  | .tup ds, .int i => (atI ds i).map .fz
  | _, _ => none
theorem atI_rps {K : PySem.W.Frag} {F : Hp} {ds : List D} {vs : List V} {i : Int} {d : D} (h : Rps K T F ds vs) (e : atI ds i = some d) : ∃ v, atI vs i = some v ∧ Rp K T F d v := by
  unfold atI at e ⊢
  rw [h.length]
  cases e1 : ixN ds.length i with
  | none => rw [e1] at e; cases e
  | some j => rw [e1] at e; exact h.get e
theorem opA_ix {K : PySem.W.Frag} : OpA K T gIx (rIx K) := fun d1 d2 a x y F H Q e r1 r2 s q => by
  cases d1 <;> first | (cases e; done) | skip
  all_goals (cases d2 <;> first | (cases e; done) | skip)
  all_goals
    rename_i ds i
    have e : (atI ds i).map An.fz = some a := e
    cases e1 : atI ds i with
    | none => rw [e1] at e; cases e
    | some d =>
      rw [e1] at e
      cases e
      obtain ⟨b, vs, rfl, hq, hr⟩ := r1
      obtain ⟨v, ev, rv⟩ := atI_rps hr e1
      first
        | exact .inl ⟨b, vs, i, v, rfl, r2, hq, ev, q v rv⟩
        | exact .inr (.inl ⟨b, vs, i, v, rfl, r2, (hq.mono s).t, ev, q v rv⟩)
theorem de_ix (ha : DE X T W a fa) (hb : DE X T W b fb) (hs : PlainIx b := by intro _ _; rfl) : DE X T W (.Subscript a b pos) (dOpA gIx fa fb) := de_ixA ix_seq opA_ix ha hb hs
end
end DL

/-! DL12: *, -, in, is, chains, slices; built-in functions -/
namespace DL
open PySem PySem.Spec PyProof.Rows L2

/-! ### data that are ints, bools -/
def toI : D → Option Int
  | .int i => some i
  | _ => none
def toIs : List D → Option (List Int)
  | [] => some []
  | d :: ds => match toI d, toIs ds with
    | some i, some is => some (i :: is)
    | _, _ => none
theorem toIs_map : ∀ {ds : List D} {ns : List Int}, toIs ds = some ns → ds = ns.map D.int
  | [], ns, h => by cases h; rfl
  | d :: ds, ns, h => by
    unfold toIs at h
    cases e1 : toI d with
    | none => simp only [e1] at h; cases h
    | some i =>
      cases e2 : toIs ds with
      | none => simp only [e1, e2] at h; cases h
      | some is =>
        simp only [e1, e2] at h
        cases h
        cases d <;> first | (cases e1; done) | skip
        cases e1
        rw [toIs_map e2]; rfl
theorem toIs_of (ns : List Int) : toIs (ns.map D.int) = some ns := by
  induction ns with
  | nil => rfl
  | cons n ns ih => show (match toI (.int n), toIs (ns.map D.int) with | some i, some is => some (i :: is) | _, _ => none) = _; rw [ih]; rfl
def toB : D → Option Bool
  | .bl i => some i
  | _ => none
def toBs : List D → Option (List Bool)
  | [] => some []
  | d :: ds => match toB d, toBs ds with
    | some i, some is => some (i :: is)
    | _, _ => none
theorem toBs_map : ∀ {ds : List D} {ns : List Bool}, toBs ds = some ns → ds = ns.map D.bl
  | [], ns, h => by cases h; rfl
  | d :: ds, ns, h => by
    unfold toBs at h
    cases e1 : toB d with
    | none => simp only [e1] at h; cases h
    | some i =>
      cases e2 : toBs ds with
      | none => simp only [e1, e2] at h; cases h
      | some is =>
        simp only [e1, e2] at h
        cases h
        cases d <;> first | (cases e1; done) | skip
        cases e1
        rw [toBs_map e2]; rfl
theorem toBs_of (ns : List Bool) : toBs (ns.map D.bl) = some ns := by
  induction ns with
  | nil => rfl
  | cons n ns ih => show (match toB (.bl n), toBs (ns.map D.bl) with | some i, some is => some (i :: is) | _, _ => none) = _; rw [ih]; rfl
theorem rps_ints {K : PySem.W.Frag} {T : Tab} {F : Hp} {ds : List D} {ns : List Int} {vs : List V} (e : toIs ds = some ns) (h : Rps K T F ds vs) : vs = ns.map V.int := by
  rw [toIs_map e] at h
  exact (Rps.ints ns vs).mp h
theorem rps_bls {K : PySem.W.Frag} {T : Tab} {F : Hp} : ∀ {bs : List Bool} {vs : List V}, Rps K T F (bs.map D.bl) vs → vs = bs.map V.bl
  | [], vs, h => rps_nil.mp h
  | b :: bs, vs, h => by
    obtain ⟨v, r, rfl, h1, h2⟩ := rps_cons.mp h
    rw [rp_bl.mp h1, rps_bls h2]; rfl

section
variable {X : Cx} {T : Tab} {W : WX} {e a b c : Expr} {es : List Expr} {f fa fb fc : En → O R} {fs : En → O (List R)} {pos p : Pos}

/-! ### - -/
def dUn (g : D → Option D) (fa : En → O R) : En → O R := fun ε => (fa ε).bind fun r ε1 => match res ε1 r with
  | some d => match g d with
    | some d' => .ok (.fz d') ε1
    | none => .bad
  | none => .bad
def gNeg : D → Option D
  | .int i => some (.int (-i))
  | _ => none
theorem de_neg (ha : DE X T W a fa) : DE X T W (.UnaryOp .USub a pos) (dUn gNeg fa) := by
  refine PE.imp (pe_un un_neg ha) fun σ H Q q => ?_
  obtain ⟨F, ε, k, p⟩ := q
  refine tD_use k Ext.refl p fun v F1 H1 r ε1 k1 _ x1 q1 n1 p1 => ?_
  cases e1 : res ε1 r with
  | none => simp only [e1] at p1; exact p1.elim
  | some d =>
    simp only [e1] at p1
    cases d with
    | int i =>
      have p1 : Po X.K T W F H σ ε (.ok (.fz (.int (-i))) ε1) (SE X.K T H σ Q) := p1
      exact ⟨i, rp_int.mp (res_rp k1 q1 e1), SE.flat (d := .int (-i)) (H' := H1) k1 x1 p1 rfl (rp_int.mpr rfl)⟩
    | _ => exact p1.elim

/-! ### * -/
def mulOk (i j : Int) : Bool := decide (i.natAbs < 2 ^ 64) || decide (j.natAbs < 2 ^ 64)
def rep {α : Type} (k : Int) (xs : List α) : List α := (List.replicate k.toNat xs).flatten
def isNew : R → Bool
  | .new _ => true
  | _ => false
def vMul (ε : En) (r1 r2 : R) : O R :=
  match res ε r1, res ε r2 with
  | some (.int i), some (.int j) => if mulOk i j then .ok (.fz (.int (i * j))) ε else .bad
  | some (.lst ds), some (.int k) => if isNew r1 && decide (-1000000 ≤ k) && decide (k ≤ 1000000) && decide (ds.length * k.toNat ≤ 1000000) then .ok (.new (.lst (rep k ds))) ε else .bad
  | _, _ => .bad
def dMul (fa fb : En → O R) : En → O R := fun ε => (fa ε).bind fun r1 ε1 => (fb ε1).bind fun r2 ε2 => vMul ε2 r1 r2
theorem rps_rep {K : PySem.W.Frag} {F : Hp} {ds : List D} {vs : List V} (h : Rps K T F ds vs) : ∀ n : Nat, Rps K T F (List.replicate n ds).flatten (List.replicate n vs).flatten
  | 0 => rps_nil.mpr rfl
  | n + 1 => by
    rw [List.replicate_succ, List.replicate_succ, List.flatten_cons, List.flatten_cons]
    exact h.append (rps_rep h n)
theorem de_mul (ha : DE X T W a fa) (hb : DE X T W b fb) : DE X T W (.BinOp a .Mult b pos) (dMul fa fb) := by
  refine PE.imp (pe_op (op_mul.or op_rep) ha hb) fun σ H Q q => ?_
  obtain ⟨F, ε, k, p⟩ := q
  refine two_use (g := fun r1 r2 ε2 => vMul ε2 r1 r2) k Ext.refl p fun v1 v2 F2 H2 r1 r2 ε2 k2 _ x2 q1 q2 n1 n2 nd p2 => ?_
  unfold vMul at p2
  split at p2
  · rename_i i j e1 e2
    split at p2
    · rename_i h
      refine .inl ⟨i, j, rp_int.mp (res_rp k2 q1 e1), rp_int.mp (res_rp k2 q2 e2), ?_, SE.flat (d := .int (i * j)) (H' := H2) k2 x2 p2 rfl (rp_int.mpr rfl)⟩
      unfold mulOk at h
      rw [Bool.or_eq_true, decide_eq_true_eq, decide_eq_true_eq] at h
      unfold CMul
      rcases h with h | h
      · exact .inl (by omega)
      · exact .inr (by omega)
    · exact p2.elim
  · rename_i ds kk e1 e2
    split at p2
    · rename_i h
      rw [Bool.and_eq_true, Bool.and_eq_true, Bool.and_eq_true, decide_eq_true_eq, decide_eq_true_eq, decide_eq_true_eq] at h
      cases r1 with
      | fz d => exact absurd h.1.1.1 (by simp [isNew])
      | «at» i => exact absurd h.1.1.1 (by simp [isNew])
      | new d =>
      cases e1
      obtain ⟨pa, o, rfl, _, g, qo, _⟩ := q1
      obtain ⟨vs, rfl, hr⟩ := rpO_lst.mp qo
      refine .inr ⟨pa, kk, vs, rfl, rp_int.mp (res_rp k2 q2 e2), g, by omega, by omega, by rw [hr.length]; exact line1M h.2, fun q hq => SE.new k2 x2 p2 hq (rpO_lst.mpr ⟨_, rfl, rps_rep hr _⟩)⟩
    · exact p2.elim
  · exact p2.elim

/-! ### in, not in -/
def inD (d : D) (ds : List D) : Bool := ds.any fun y => deq y d
def allOkq (ds : List D) : Bool := ds.all fun d => flat d && sok d
def gIn (neg : Bool) : D → D → Option D
  | d, .lst ds => if (flat d && sok d) && allOkq ds then some (.bl (if neg then !inD d ds else inD d ds)) else none
  | d, .tup ds => if (flat d && sok d) && allOkq ds then some (.bl (if neg then !inD d ds else inD d ds)) else none
  | _, _ => none
theorem not_sok_fn {n : Nat} : sok (.fn n) = false := by unfold sok; rfl
theorem not_sok_ty {n : String} : sok (.ty n) = false := by unfold sok; rfl
theorem flat_V {K : PySem.W.Frag} {F : Hp} {d : D} {v : V} (h : (flat d && sok d) = true) (r : Rp K T F d v) : flatV v = true := by
  rw [Bool.and_eq_true] at h
  cases d with
  | non => rw [rp_non.mp r]; rfl
  | bl b => rw [rp_bl.mp r]; rfl
  | int b => rw [rp_int.mp r]; rfl
  | str b => rw [rp_str.mp r]; rfl
  | fn n => exact absurd h.2 (by unfold sok; simp)
  | ty n => exact absurd h.2 (by unfold sok; simp)
  | _ => cases h.1
theorem eqV_deq {K : PySem.W.Frag} {F F' : Hp} {d d' : D} {v v' : V} (h : (flat d && sok d) = true) (h' : (flat d' && sok d') = true) (r : Rp K T F d v) (r' : Rp K T F' d' v') : eqV v v' = deq d d' := by
  rw [Bool.and_eq_true] at h h'
  cases d with
  | non => rw [rp_non.mp r]; cases d' <;> first | (cases h'.1; done) | (rw [not_sok_fn] at h'; exact absurd h'.2 (by decide)) | (rw [not_sok_ty] at h'; exact absurd h'.2 (by decide)) | (first | rw [rp_non.mp r'] | rw [rp_bl.mp r'] | rw [rp_int.mp r'] | rw [rp_str.mp r']); simp [eqV, deq]
  | bl b => rw [rp_bl.mp r]; cases d' <;> first | (cases h'.1; done) | (rw [not_sok_fn] at h'; exact absurd h'.2 (by decide)) | (rw [not_sok_ty] at h'; exact absurd h'.2 (by decide)) | (first | rw [rp_non.mp r'] | rw [rp_bl.mp r'] | rw [rp_int.mp r'] | rw [rp_str.mp r']); simp [eqV, deq]
  | int b => rw [rp_int.mp r]; cases d' <;> first | (cases h'.1; done) | (rw [not_sok_fn] at h'; exact absurd h'.2 (by decide)) | (rw [not_sok_ty] at h'; exact absurd h'.2 (by decide)) | (first | rw [rp_non.mp r'] | rw [rp_bl.mp r'] | rw [rp_int.mp r'] | rw [rp_str.mp r']); simp [eqV, deq]
  | str b => rw [rp_str.mp r]; cases d' <;> first | (cases h'.1; done) | (rw [not_sok_fn] at h'; exact absurd h'.2 (by decide)) | (rw [not_sok_ty] at h'; exact absurd h'.2 (by decide)) | (first | rw [rp_non.mp r'] | rw [rp_bl.mp r'] | rw [rp_int.mp r'] | rw [rp_str.mp r']); simp [eqV, deq]
  | fn n => exact absurd h.2 (by unfold sok; simp)
  | ty n => exact absurd h.2 (by unfold sok; simp)
  | _ => cases h.1
theorem allOkq_V {K : PySem.W.Frag} {F : Hp} : ∀ {ds : List D} {vs : List V}, allOkq ds = true → Rps K T F ds vs → vs.all flatV = true
  | [], vs, _, h => by rw [rps_nil.mp h]; rfl
  | d :: ds, vs, a, h => by
    obtain ⟨v, r, rfl, h1, h2⟩ := rps_cons.mp h
    unfold allOkq at a
    rw [List.all_cons, Bool.and_eq_true] at a
    rw [List.all_cons, Bool.and_eq_true]
    exact ⟨flat_V a.1 h1, allOkq_V a.2 h2⟩
theorem inV_inD {K : PySem.W.Frag} {F F' : Hp} {d : D} {v : V} (hd : (flat d && sok d) = true) (r : Rp K T F d v) : ∀ {ds : List D} {vs : List V}, allOkq ds = true → Rps K T F' ds vs → inV v vs = inD d ds
  | [], vs, _, h => by rw [rps_nil.mp h]; rfl
  | d' :: ds, vs, a, h => by
    obtain ⟨v', r', rfl, h1, h2⟩ := rps_cons.mp h
    unfold allOkq at a
    rw [List.all_cons, Bool.and_eq_true] at a
    have ih := inV_inD (ds := ds) hd r a.2 h2
    unfold inV inD at ih ⊢
    rw [List.any_cons, List.any_cons, ih, eqV_deq a.1 hd h1 r]
theorem op2_in {K : PySem.W.Frag} {neg : Bool} : Op2 K T (gIn neg) (rIn K neg) := fun d1 d2 d x y H Q e r1 r2 q => by
  cases d2 <;> first | (cases d1 <;> (cases e; done)) | skip
  all_goals
    rename_i ds
    have e : (if ((flat d1 && sok d1) && allOkq ds) = true then some (D.bl (if neg then !inD d1 ds else inD d1 ds)) else none) = some d := by
      cases d1 <;> exact e
    by_cases h : ((flat d1 && sok d1) && allOkq ds) = true
    · rw [if_pos h] at e
      cases e
      rw [Bool.and_eq_true] at h
      first
        | (obtain ⟨a, vs, rfl, hq, hr⟩ := rp_lst.mp r2
           refine ⟨rfl, a, vs, rfl, .inl hq, flat_V h.1 r1, allOkq_V h.2 hr, ?_⟩
           rw [inV_inD h.1 r1 h.2 hr]
           exact q _ (rp_bl.mpr rfl))
        | (obtain ⟨a, vs, rfl, hq, hr⟩ := rp_tupT r2
           refine ⟨rfl, a, vs, rfl, .inr hq, flat_V h.1 r1, allOkq_V h.2 hr, ?_⟩
           rw [inV_inD h.1 r1 h.2 hr]
           exact q _ (rp_bl.mpr rfl))
    · rw [if_neg h] at e; cases e
theorem de_in (ha : DE X T W a fa) (hb : DE X T W b fb) (hm : behindInMarks .In b = false := by first | exact nobehind _ (by decide) (by decide) | rfl) : DE X T W (.Compare a [.In] [b] pos) (dOp2 (gIn false) fa fb) := de_cmp op_in_seq op2_in ha hb hm
theorem de_nin (ha : DE X T W a fa) (hb : DE X T W b fb) (hm : behindInMarks .NotIn b = false := by first | exact nobehind _ (by decide) (by decide) | rfl) : DE X T W (.Compare a [.NotIn] [b] pos) (dOp2 (gIn true) fa fb) := de_cmp op_notIn_seq op2_in ha hb hm
theorem dt_in (ha : DE X T W a fa) (hb : DE X T W b fb) (hm : behindInMarks .In b = false := by first | exact nobehind _ (by decide) (by decide) | rfl) : DT X T W (.Compare a [.In] [b] pos) (dTst (dOp2 (gIn false) fa fb)) := dt_cmp op_in_seq op2_in ha hb hm
theorem dt_nin (ha : DE X T W a fa) (hb : DE X T W b fb) (hm : behindInMarks .NotIn b = false := by first | exact nobehind _ (by decide) (by decide) | rfl) : DT X T W (.Compare a [.NotIn] [b] pos) (dTst (dOp2 (gIn true) fa fb)) := dt_cmp op_notIn_seq op2_in ha hb hm
end
end DL

/-! DL13: is None, chains, slices; stores into own objects; methods of own objects -/
namespace DL
open PySem PySem.Spec PyProof.Rows L2

section
variable {X : Cx} {T : Tab} {W : WX} {e a b c : Expr} {es : List Expr} {f fa fb fc : En → O R} {fs : En → O (List R)} {pos p : Pos}

/-! ### is None -/
def isNon : D → Bool
  | .non => true
  | _ => false
theorem isNon_rp {K : PySem.W.Frag} {H : Hp} {d : D} {v : V} (r : Rp K T H d v) : decide (v = .non) = isNon d := by
  cases d with
  | non => rw [rp_non.mp r]; rfl
  | bl b => rw [rp_bl.mp r]; rfl
  | int b => rw [rp_int.mp r]; rfl
  | str b => rw [rp_str.mp r]; rfl
  | fn b => rw [rp_fn.mp r]; rfl
  | ty b => rw [rp_ty.mp r]; rfl
  | tup ds => obtain ⟨a, vs, rfl, _⟩ := rp_tup.mp r; rfl
  | lst ds => obtain ⟨a, vs, rfl, _⟩ := rp_lst.mp r; rfl
  | dK ks ds => obtain ⟨a, vs, rfl, _⟩ := rp_dK.mp r; rfl
  | dT ks ds => obtain ⟨a, vs, rfl, _⟩ := rp_dT.mp r; rfl
  | ins c fs ds => obtain ⟨a, dx, vs, rfl, _⟩ := rp_ins.mp r; rfl
def dIsN (neg : Bool) (f : En → O R) : En → O R := fun ε => (f ε).bind fun r ε1 => match res ε1 r with
  | some d => .ok (.fz (.bl (if neg then !isNon d else isNon d))) ε1
  | none => .bad
theorem isN_use {K : PySem.W.Frag} {neg : Bool} {σ : L2.St} {H : Hp} {Q : VK} (q : tD K T W (dIsN neg f) σ H Q) : tD K T W f σ H fun x H1 => Q (.bl (if neg then !decide (x = .non) else decide (x = .non))) H1 := by
  obtain ⟨F, ε, k, p⟩ := q
  refine tD_use k Ext.refl p fun v F1 H1 r ε1 k1 _ x1 q1 n1 p1 => ?_
  cases e1 : res ε1 r with
  | none => simp only [e1] at p1; exact p1.elim
  | some d =>
    simp only [e1] at p1
    rw [isNon_rp (res_rp k1 q1 e1)]
    exact SE.flat (d := .bl (if neg then !isNon d else isNon d)) (H' := H1) k1 x1 p1 rfl (rp_bl.mpr rfl)
variable {j : Nat} {pos' : Pos}
theorem de_isN (ha : DE X T W a f) : DE X T W (.Compare a [.Is] [.Constant .none j pos'] pos) (dIsN false f) := PE.imp (pe_cmp (pc_isN ha)) fun σ H Q q => isN_use q
theorem de_notN (ha : DE X T W a f) : DE X T W (.Compare a [.IsNot] [.Constant .none j pos'] pos) (dIsN true f) := PE.imp (pe_cmp (pc_notN ha)) fun σ H Q q => isN_use q
theorem dt_isN (ha : DE X T W a f) : DT X T W (.Compare a [.Is] [.Constant .none j pos'] pos) (dTst (dIsN false f)) := PT.imp (pt_cmp (pc_isN ha)) fun σ H Q q => isN_use (neg := false) (Q := fun x H1 => ∃ c, x = .bl c ∧ Q c H1) (tst_use q)
theorem dt_notN (ha : DE X T W a f) : DT X T W (.Compare a [.IsNot] [.Constant .none j pos'] pos) (dTst (dIsN true f)) := PT.imp (pt_cmp (pc_notN ha)) fun σ H Q q => isN_use (neg := true) (Q := fun x H1 => ∃ c, x = .bl c ∧ Q c H1) (tst_use q)

/-! ### a op b op c -/
def vCh2 (g : D → D → Option D) (d2 : D) (ε : En) (r : R) : O R :=
  match res ε r with
  | some d3 => match g d2 d3 with
    | some d => .ok (.fz d) ε
    | none => .bad
  | none => .bad
def vCh (g g' : D → D → Option D) (fc : En → O R) (ε : En) (r1 r2 : R) : O R :=
  match res ε r1, res ε r2 with
  | some d1, some d2 => if flat d2 then match g d1 d2 with
    | some (.bl b) => if b = true then (fc ε).bind fun r ε1 => vCh2 g' d2 ε1 r else .ok (.fz (.bl false)) ε
    | _ => .bad
    else .bad
  | _, _ => .bad
def dCh (g g' : D → D → Option D) (fa fb fc : En → O R) : En → O R := fun ε => (fa ε).bind fun r1 ε1 => (fb ε1).bind fun r2 ε2 => vCh g g' fc ε2 r1 r2
theorem ch_use {K : PySem.W.Frag} {g g' : D → D → Option D} {r r' : R2} (hg : Op2 K T g r) (hg' : Op2 K T g' r') {σ : L2.St} {H : Hp} {Q : VK} (q : tD K T W (dCh g g' fa fb fc) σ H Q) : tChain r r' (tD K T W fa) (tD K T W fb) (tD K T W fc) σ H Q := by
  obtain ⟨F, ε, k, p⟩ := q
  refine two_use (g := fun r1 r2 ε2 => vCh g g' fc ε2 r1 r2) k Ext.refl p fun v1 v2 F2 H2 r1 r2 ε2 k2 _ x2 q1 q2 n1 n2 nd p2 => ?_
  unfold vCh at p2
  cases e1 : res ε2 r1 with
  | none => simp only [e1] at p2; exact p2.elim
  | some d1 =>
    cases e2 : res ε2 r2 with
    | none => simp only [e1, e2] at p2; exact p2.elim
    | some d2 =>
      simp only [e1, e2] at p2
      by_cases hf : flat d2 = true
      · rw [if_pos hf] at p2
        have a1 := res_rp k2 q1 e1
        have a2 := res_rp k2 q2 e2
        cases e3 : g d1 d2 with
        | none => simp only [e3] at p2; exact p2.elim
        | some d =>
          cases d with
          | bl bb =>
            refine (hg d1 d2 (.bl bb) v1 v2 H2 _ e3 a1 a2 fun v hv => ⟨bb, rp_bl.mp hv, ?_⟩).2
            cases bb with
            | false =>
              simp only [e3] at p2
              rw [if_neg (by decide)] at p2
              rw [if_neg (by decide)]
              exact SE.flat (d := .bl false) (H' := H2) k2 x2 p2 rfl (rp_bl.mpr rfl)
            | true =>
              simp only [e3] at p2
              rw [if_pos trivial] at p2
              rw [if_pos rfl]
              refine tD_use (g := fun r ε1 => vCh2 g' d2 ε1 r) k2 x2 p2 fun v3 F3 H3 r3 ε3 k3 _ x3 q3 n3 p3 => ?_
              unfold vCh2 at p3
              cases e4 : res ε3 r3 with
              | none => simp only [e4] at p3; exact p3.elim
              | some d3 =>
                simp only [e4] at p3
                cases e5 : g' d2 d3 with
                | none => simp only [e5] at p3; exact p3.elim
                | some d =>
                  simp only [e5] at p3
                  have a3 := res_rp k3 q3 e4
                  have a2' : Rp K T H3 d2 v2 := flat_rp hf a2
                  have hd := (hg' d2 d3 d v2 v3 H3 (fun _ _ => True) e5 a2' a3 fun _ _ => trivial).1
                  exact (hg' d2 d3 d v2 v3 H3 Q e5 a2' a3 fun v hv => SE.flat k3 x3 p3 hd hv).2
          | _ => simp only [e3] at p2; exact p2.elim
      · rw [if_neg hf] at p2; exact p2.elim
theorem de_ch {op op' : CmpOp} {g g' : D → D → Option D} {r r' : R2} (ho : OpR X (compareOp op) r) (ho' : OpR X (compareOp op') r') (hg : Op2 X.K T g r) (hg' : Op2 X.K T g' r') (ha : DE X T W a fa) (hb : DE X T W b fb) (hc : DE X T W c fc)
    (hm : lastMarks [op, op'] [b, c] = false := by with_unfolding_all rfl) : DE X T W (.Compare a [op, op'] [b, c] pos) (dCh g g' fa fb fc) := PE.imp (pe_chain ho ho' ha hb hc hm) fun σ H Q q => ch_use hg hg' q
theorem dt_ch {op op' : CmpOp} {g g' : D → D → Option D} {r r' : R2} (ho : OpR X (compareOp op) r) (ho' : OpR X (compareOp op') r') (hg : Op2 X.K T g r) (hg' : Op2 X.K T g' r') (ha : DE X T W a fa) (hb : DE X T W b fb) (hc : DE X T W c fc)
    (hm : lastMarks [op, op'] [b, c] = false := by with_unfolding_all rfl) : DT X T W (.Compare a [op, op'] [b, c] pos) (dTst (dCh g g' fa fb fc)) := PT.imp (pt_chain ho ho' ha hb hc hm) fun σ H Q q => ch_use hg hg' (tst_use q)
theorem de_lele (ha : DE X T W a fa) (hb : DE X T W b fb) (hc : DE X T W c fc) (hm : lastMarks [.LtE, .LtE] [b, c] = false := by with_unfolding_all rfl) : DE X T W (.Compare a [.LtE, .LtE] [b, c] pos) (dCh gLe gLe fa fb fc) := de_ch (OpR.of0 op_le) (OpR.of0 op_le) op2_le op2_le ha hb hc hm
theorem dt_lele (ha : DE X T W a fa) (hb : DE X T W b fb) (hc : DE X T W c fc) (hm : lastMarks [.LtE, .LtE] [b, c] = false := by with_unfolding_all rfl) : DT X T W (.Compare a [.LtE, .LtE] [b, c] pos) (dTst (dCh gLe gLe fa fb fc)) := dt_ch (OpR.of0 op_le) (OpR.of0 op_le) op2_le op2_le ha hb hc hm

/-! ### slices -/
def tDO (K : PySem.W.Frag) (T : Tab) (W : WX) (f : En → O (Option Int)) : TO := fun σ H Q => ∃ F ε, Ok K T F H σ ε ∧ Po K T W F H σ ε (f ε) (fun o _ _ H' => Q o H')
abbrev DO (X : Cx) (T : Tab) (W : WX) (e : Option Expr) (f : En → O (Option Int)) : Prop := PO X e (tDO X.K T W f)
theorem PO.imp {o : Option Expr} {t t' : TO} (h : PO X o t) (w : ∀ σ H Q, t' σ H Q → t σ H Q) : PO X o t' := ⟨fun pins s σ H Q I q => h.run pins s σ H Q I (w σ H Q q)⟩
def dON : En → O (Option Int) := fun ε => .ok none ε
def dOS (f : En → O R) : En → O (Option Int) := fun ε => (f ε).bind fun r ε1 => match res ε1 r with
  | some (.int i) => .ok (some i) ε1
  | _ => .bad
theorem do_none : DO X T W none dON := PO.imp po_none fun σ H Q ⟨F, ε, k, p⟩ => p F H k Ext.refl
theorem do_some (h : DE X T W e f) : DO X T W (some e) (dOS f) := by
  refine PO.imp (po_some h) fun σ H Q q => ?_
  obtain ⟨F, ε, k, p⟩ := q
  refine tD_use k Ext.refl p fun v F1 H1 r ε1 k1 x1 _ q1 n1 p1 => ?_
  split at p1
  · rename_i i e1
    exact ⟨i, rp_int.mp (res_rp k1 q1 e1), p1 F1 H1 k1 x1⟩
  · exact p1.elim
theorem tDO_use {α : Type} {K : PySem.W.Frag} {fo : En → O (Option Int)} {g : Option Int → En → O α} {F0 H0 F H : Hp} {σ : L2.St} {ε0 ε : En} {S : α → En → Hp → Hp → Prop} {Q : Option Int → Hp → Prop} (k : Ok K T F H σ ε) (x0 : Ext F0 H0 σ ε0 F H σ ε) (p : Po K T W F0 H0 σ ε0 ((fo ε).bind g) S)
    (h : ∀ b F1 H1 ε1, Ok K T F1 H1 σ ε1 → Ext F H σ ε F1 H1 σ ε1 → Ext F0 H0 σ ε0 F1 H1 σ ε1 → Po K T W F0 H0 σ ε0 (g b ε1) S → Q b H1) : tDO K T W fo σ H Q := by
  refine ⟨F, ε, k, ?_⟩
  cases e : fo ε with
  | bad => rw [e] at p; exact p
  | ok b ε1 =>
    rw [e] at p
    exact fun F1 H1 k1 x1 => h b F1 H1 ε1 k1 x1 (x0.trans x1) p
  | exn c ε1 =>
    rw [e] at p
    exact fun F1 H1 k1 x1 => p F1 H1 k1 (x0.trans x1)
/-- the items of xs[lo:hi] -/
def cut {α : Type} (xs : List α) (lo hi : Option Int) : List α := (xs.drop (HT.sIx xs.length 0 lo)).take (HT.sIx xs.length xs.length hi - HT.sIx xs.length 0 lo)
theorem rps_cut {K : PySem.W.Frag} {F : Hp} {ds : List D} {vs : List V} (h : Rps K T F ds vs) (lo hi : Option Int) : Rps K T F (cut ds lo hi) (cutV vs lo hi) := by
  unfold cut cutV
  rw [h.length]
  exact (h.drop _).take _
/-- t[lo:hi], the new tuple's object known -/
def rSlN (K : PySem.W.Frag) : V → Option Int → Option Int → Hp → VK → Prop := fun x lo hi H Q => ∃ a xs, x = .ref a ∧ SqT K H a xs ∧ ((cutV xs lo hi = xs → Q (.ref a) H) ∧ NewT Q H (cutV xs lo hi))
theorem sl_tupN : SlR X (rSlN X.K) := by
  intro pins s σ H x v vl vu lo hi sl Q I rx hs pl pu h
  obtain ⟨a, xs, rfl, hx, q1, q2⟩ := h
  by_cases hw : HT.sIx xs.length 0 lo = 0 ∧ HT.sIx xs.length xs.length hi = xs.length
  · refine sl_tupA pins s σ H _ v vl vu lo hi sl Q I rx hs pl pu ⟨a, xs, rfl, hx, fun _ => q1 ?_, fun z => absurd hw z⟩
    unfold cutV
    rw [hw.1, hw.2, Nat.sub_zero, List.drop_zero, List.take_length]
  · cases rx
    obtain ⟨its, r, ht, hz⟩ := I.tuple hx
    have hlen : its.toArray.size = xs.length := by rw [List.size_toArray]; exact r.length.symm
    refine ⟨"tuple", _, PyProof.Rows.slot_tuple_getitem.lookup, ht.typeIs, ?_⟩
    refine HT.getItem_tuple_cut ht hs pl pu (by rw [hlen]; exact hw) ?_ (by rw [hlen]; exact hz)
    rw [hlen]
    exact ⟨.ref s.heap.objs.size, _, I.laid (t' := s.toks) (fun b ob q => Heap.get?_push_of_some _ q) (Nat.le_refl _) (tup_new (Heap.get?_push_size _ rfl) rfl ((r.drop (HT.sIx xs.length 0 lo)).take (HT.sIx xs.length xs.length hi - HT.sIx xs.length 0 lo)) (Nat.le_trans (cutV_length xs lo hi) hz)), rfl, q2 _ _ (I.hok.fresh (Nat.le_refl _)) rfl⟩
def vSl (ε : En) (r : R) (lo hi : Option Int) : O R :=
  match res ε r with
  | some (.lst ds) => .ok (.new (.lst (cut ds lo hi))) ε
  | some (.tup ds) => .ok (.fz (.tup (cut ds lo hi))) ε
  | _ => .bad
def dSl (f : En → O R) (fl fh : En → O (Option Int)) : En → O R := fun ε => (f ε).bind fun r ε1 => (fl ε1).bind fun lo ε2 => (fh ε2).bind fun hi ε3 => vSl ε3 r lo hi
theorem de_slice {lo hi : Option Expr} {fl fh : En → O (Option Int)} {p2 : Pos} (he : DE X T W e f) (hl : DO X T W lo fl) (hh : DO X T W hi fh) : DE X T W (.Subscript e (.Slice lo hi none p2) pos) (dSl f fl fh) := by
  refine PE.imp (pe_slice (sl_list.or sl_tupN) he hl hh) fun σ H Q q => ?_
  obtain ⟨F, ε, k, p⟩ := q
  refine tD_use (g := fun r ε1 => (fl ε1).bind fun lo ε2 => (fh ε2).bind fun hi ε3 => vSl ε3 r lo hi) k Ext.refl p fun v F1 H1 r ε1 k1 _ x1 q1 n1 p1 => ?_
  refine tDO_use (g := fun lo ε2 => (fh ε2).bind fun hi ε3 => vSl ε3 r lo hi) k1 x1 p1 fun l F2 H2 ε2 k2 y2 x2 p2 => ?_
  refine tDO_use (g := fun hi ε3 => vSl ε3 r l hi) k2 x2 p2 fun h F3 H3 ε3 k3 y3 x3 p3 => ?_
  have q3 := (q1.ext y2).ext y3
  unfold vSl at p3
  cases e1 : res ε3 r with
  | none => simp only [e1] at p3; exact p3.elim
  | some d =>
    simp only [e1] at p3
    have a1 := res_rpi k3 q3 e1
    cases d with
    | lst ds =>
      obtain ⟨a, vs, rfl, hq, hr⟩ := a1
      exact .inl ⟨a, vs, rfl, hq, fun q hq => SE.new k3 x3 p3 hq (rpO_lst.mpr ⟨_, rfl, rps_cut hr l h⟩)⟩
    | tup ds =>
      obtain ⟨a, vs, rfl, hq, hr⟩ := a1
      refine .inr ⟨a, vs, rfl, (hq.mono k3.sub).t, fun z => ?_, fun q o hq ho => SE.newT k3 x3 p3 hq (rps_cut hr l h) ho⟩
      refine SE.fin k3 x3 p3 (rp_tup.mpr ⟨a, vs, rfl, hq, ?_⟩) (by simp [newA])
      have := rps_cut hr l h
      rw [z] at this
      exact this
    | _ => exact p3.elim
end

/-! ### writing an object of a slot -/
section
variable {K : PySem.W.Frag} {T : Tab} {W : WX} {F0 H0 F H : Hp} {σ0 σ : L2.St} {ε0 ε : En} {i : Nat} {d d' : D} {a : Addr} {o' : HO}
theorem own_write {b : Addr} (e : ε[i]? = some (.own d)) (h : OwnAt σ (ε.set i (.own d')) b) : OwnAt σ ε b := by
  obtain ⟨j, d1, ej, s⟩ := h
  by_cases hj : i = j
  · subst hj
    exact ⟨i, d, e, s⟩
  · rw [List.getElem?_set_ne hj] at ej
    exact ⟨j, d1, ej, s⟩
theorem ok_write (k : Ok K T F H σ ε) (e : ε[i]? = some (.own d)) (s : σ[i]? = some (some (.ref a))) (r : RpO K T F d' o') : Ok K T F (upd H a o') σ (ε.set i (.own d')) where
  sub := fun b u eb => by
    obtain ⟨a', o, s', f, _, _⟩ := k.own i d e
    rw [s] at s'; cases s'
    rw [upd_ne (ne_of_none eb f)]; exact k.sub _ _ eb
  len := by rw [List.length_set]; exact k.len
  fz := fun j d1 ej => by
    by_cases hj : i = j
    · subst hj
      rw [List.getElem?_set_self (List.getElem?_eq_some_iff.mp e).1] at ej; cases ej
    · rw [List.getElem?_set_ne hj] at ej
      exact k.fz j d1 ej
  own := fun j d1 ej => by
    obtain ⟨a', o, s', f, g, q⟩ := k.own i d e
    rw [s] at s'; cases s'
    by_cases hj : i = j
    · subst hj
      rw [List.getElem?_set_self (List.getElem?_eq_some_iff.mp e).1] at ej
      cases ej
      exact ⟨a, o', s, f, upd_same, r⟩
    · rw [List.getElem?_set_ne hj] at ej
      obtain ⟨b, ob, sb, fb, gb, qb⟩ := k.own j d1 ej
      refine ⟨b, ob, sb, fb, ?_, qb⟩
      rw [upd_ne (fun z => hj ?_)]
      · exact gb
      · subst z
        exact k.sep i j d d1 b e ej s sb
  sep := fun j1 j2 d1 d2 b e1 e2 s1 s2 => by
    have h1 : ∃ d, ε[j1]? = some (Sl.own d) := by
      by_cases hj : i = j1
      · subst hj; exact ⟨d, e⟩
      · rw [List.getElem?_set_ne hj] at e1; exact ⟨d1, e1⟩
    have h2 : ∃ d, ε[j2]? = some (Sl.own d) := by
      by_cases hj : i = j2
      · subst hj; exact ⟨d, e⟩
      · rw [List.getElem?_set_ne hj] at e2; exact ⟨d2, e2⟩
    obtain ⟨c1, f1⟩ := h1
    obtain ⟨c2, f2⟩ := h2
    exact k.sep j1 j2 c1 c2 b f1 f2 s1 s2
theorem Ext.write (x : Ext F0 H0 σ0 ε0 F H σ ε) (e : ε[i]? = some (.own d)) (s : σ[i]? = some (some (.ref a))) : Ext F0 H0 σ0 ε0 F (L2.upd H a o') σ (ε.set i (.own d')) where
  fs := x.fs
  hk := fun b u eb n => by
    rw [upd_ne (fun z => ?_)]
    · exact x.hk b u eb n
    · subst z
      rcases x.on b ⟨i, d, e, s⟩ with y | y
      · exact n y
      · rw [y] at eb; cases eb
  ht := fun b eb => by
    by_cases h : b = a
    · subst h; rw [upd_same] at eb; cases eb
    · rw [upd_ne h] at eb; exact x.ht b eb
  fn := x.fn
  on := fun b h => x.on b (own_write e h)
end

section
variable {X : Cx} {T : Tab} {W : WX} {e a b c : Expr} {es : List Expr} {f fa fb fc : En → O R} {fs : En → O (List R)} {pos p : Pos} {P : List Nat}
/-! ### x[k] = .. -/
def gSubL (i : Nat) (fi : En → O R) : D → En → Option En := fun d ε =>
  match ε[i]? with
  | some (.own _) => match fi ε with
    | .ok (.fz (.int k)) ε1 => match ε1[i]? with
      | some (.own (.lst ds)) => match ixN ds.length k with
        | some j => some (ε1.set i (.own (.lst (ds.set j d))))
        | none => none
      | _ => none
    | _ => none
  | _ => none
theorem dg_subL (i : Nat) {x : Str} {px : Pos} {fi : En → O R} (hx : PE X (.Name x px) (tVar i)) (hi : DE X T W e fi)
    (ha : ∀ v, assign (.Subscript (.Name x px) e pos) X.env v = (do
      let ov ← holding [v] (eval (.Name x px) X.env)
      let iv ← holding [v, ov] (eval e X.env)
      standAt pos
      holding [v, ov, iv] (setItem ov iv v)
      release [v, ov, iv] []) := by intro _; rfl) : DG X T [] (.Subscript (.Name x px) e pos) (gSubL i fi) := by
  refine PG.imp (pg_sub hx hi set_list ha) fun v σ H Q q => ?_
  obtain ⟨F, ε, d, ε', k, r, eg, q⟩ := q
  unfold gSubL at eg
  split at eg
  · rename_i d0 e0
    obtain ⟨a0, o0, s0, _⟩ := k.own i d0 e0
    refine ⟨.ref a0, s0, F, ε, k, ?_⟩
    split at eg
    · rename_i kk ε1 e1
      rw [e1]
      intro F1 H1 k1 x1 u hu hn
      have hu : Rp X.K T F1 (.int kk) u := hu
      split at eg
      · rename_i ds e2
        split at eg
        · rename_i j e3
          cases eg
          obtain ⟨a1, o1, s1, f1, g1, q1⟩ := k1.own i _ e2
          rw [s0] at s1; cases s1
          obtain ⟨vs, rfl, hr⟩ := rpO_lst.mp q1
          refine ⟨a0, vs, kk, j, rfl, rp_int.mp hu, g1, by rw [hr.length]; exact e3, ?_⟩
          exact q F1 _ σ (ok_write k1 e2 s0 (rpO_lst.mpr ⟨_, rfl, hr.set j (Rp.mono x1.fs _ _ r)⟩)) (x1.write e2 s0) (fun _ _ => rfl) rfl
        · cases eg
      · cases eg
    · cases eg
  · cases eg

/-! ### x op= e -/
def vAug (i : Nat) (g : D → D → Option D) (d0 : D) (ε : En) (r : R) : O Fl :=
  match res ε r with
  | some d1 => match g d0 d1 with
    | some d => if flat d0 then .ok .nx (ε.set i (.fz d)) else .bad
    | none => .bad
  | none => .bad
def dAug (i : Nat) (g : D → D → Option D) (f : En → O R) : En → O Fl := fun ε =>
  match ε[i]? with
  | some (.fz d0) => (f ε).bind fun r ε1 => vAug i g d0 ε1 r
  | _ => .bad
theorem ds_aug {i : Nat} {x : Str} {op : Operator} {g : D → D → Option D} {r : R2} {pos' : Pos} (hN : X.N.Nodup) (ho : PIp X op r) (hg : Op2 X.K T g r) (he : DE X T W e f) (hi : X.N[i]? = some x := by rfl) (hx : Loc X.env.scope x := by first | exact Or.inl rfl | exact Or.inr rfl) (hP : i ∉ P := by decide)
    (hf : X.fn x = true ∨ X.env.scope.names.lookup x = some .local := by first | exact .inl rfl | exact .inr rfl) : DS X T W P (.AugAssign (.Name x pos') op e pos) (dAug i g f) := by
  refine PS.imp (ps_aug hN hi hx he ho hf) fun D σ H q => ?_
  obtain ⟨F, ε, k, p⟩ := q
  unfold dAug at p
  split at p
  · rename_i d0 e0
    obtain ⟨v0, s0, r0⟩ := k.fz i d0 e0
    refine ⟨v0, s0, ?_⟩
    refine tD_useS (g := fun r ε1 => vAug i g d0 ε1 r) (S := SF X.K T H D) k Ext.refl (fun _ _ => rfl) p fun v F1 H1 r ε1 k1 x1 _ q1 n1 p1 => ?_
    unfold vAug at p1
    cases e1 : res ε1 r with
    | none => simp only [e1] at p1; exact p1.elim
    | some d1 =>
      simp only [e1] at p1
      cases e2 : g d0 d1 with
      | none => simp only [e2] at p1; exact p1.elim
      | some d =>
        simp only [e2] at p1
        by_cases hf0 : flat d0 = true
        · rw [if_pos hf0] at p1
          have a0 : Rp X.K T H1 d0 v0 := flat_rp hf0 r0
          have a1 := res_rp k1 q1 e1
          have hd := (hg d0 d1 d v0 v H1 (fun _ _ => True) e2 a0 a1 fun _ _ => trivial).1
          refine (hg d0 d1 d v0 v H1 _ e2 a0 a1 fun z hz => ?_).2
          have p1 : Ps X.K T W P F H σ ε (.ok .nx (ε1.set i (.fz d))) (SF X.K T H D) := p1
          exact p1 F1 H1 _ (ok_setF k1 (flat_rp hd hz)) x1.setF (p_set hP)
        · rw [if_neg hf0] at p1; exact p1.elim
  · exact p.elim

/-! ### a, b = x, y: two plain locals -/
def isFN : R → Bool
  | .at _ => false
  | _ => true
def vPar (i j : Nat) (ε : En) (rs : List R) : O Fl :=
  match rs with
  | [r1, r2] => if isFN r1 && isFN r2 then match vSto i ε r1 with
    | some ε1 => match vSto j ε1 r2 with
      | some ε2 => .ok .nx ε2
      | none => .bad
    | none => .bad
    else .bad
  | _ => .bad
def dPar (i j : Nat) (fs : En → O (List R)) : En → O Fl := fun ε => (fs ε).bind fun rs ε1 => vPar i j ε1 rs
theorem sto_fn {K : PySem.W.Frag} {F0 H0 F H : Hp} {σ0 σ : L2.St} {ε0 ε ε' : En} {i : Nat} {r : R} {v : V} (hr : isFN r = true) (x : Ext F0 H0 σ0 ε0 F H σ ε) (k : Ok K T F H σ ε) (h : RpR K T F H σ ε r v) (hn : ∀ a ∈ newA r v, H0 a = none) (e : vSto i ε r = some ε') : Ok K T F H (σ.set i (some v)) ε' ∧ Ext F0 H0 σ0 ε0 F H (σ.set i (some v)) ε' := by
  cases r with
  | «at» j => cases hr
  | fz d => cases e; exact ⟨ok_setF k h, x.setF⟩
  | new d =>
    cases e
    obtain ⟨a, o, rfl, f, g, q, n⟩ := h
    exact ⟨ok_setN k f g q n, x.setN (hn a (by simp [newA]))⟩
theorem rpR_sto {K : PySem.W.Frag} {F H : Hp} {σ : L2.St} {ε ε1 : En} {i : Nat} {r1 r2 : R} {v w : V} (h1 : RpR K T F H σ ε r1 v) (h2 : RpR K T F H σ ε r2 w) (f1 : isFN r1 = true) (f2 : isFN r2 = true) (nd : ∀ a ∈ newA r2 w, a ∉ newA r1 v) (e : vSto i ε r1 = some ε1) : RpR K T F H (σ.set i (some v)) ε1 r2 w := by
  cases r2 with
  | «at» i => cases f2
  | fz d => exact h2
  | new d =>
    obtain ⟨a, o, rfl, f, g, q, n⟩ := h2
    refine ⟨a, o, rfl, f, g, q, fun z => ?_⟩
    cases r1 with
    | «at» i => cases f1
    | fz d1 => cases e; exact n (own_setF z)
    | new d1 =>
      cases e
      obtain ⟨b, ob, rfl, _⟩ := h1
      rcases own_setN z with y | y
      · exact n y
      · exact nd a (by simp [newA]) (by rw [y]; simp [newA])
theorem ds_par {i j : Nat} {x y : Str} {px py pt : Pos} {kt k2 pt2} (hc : X.calm = true) (hN : X.N.Nodup) (ha : DA X T W [a, b] fs) (hw : swappedStores [.Tuple [.Name x px, .Name y py] kt pt] (.Tuple [a, b] k2 pt2) X.env = pure (some [x, y]))
    (hi : X.N[i]? = some x := by rfl) (hj : X.N[j]? = some y := by rfl) (hij : i ≠ j := by decide) (hx : X.env.scope.names.lookup x = some .local := by rfl) (hy : X.env.scope.names.lookup y = some .local := by rfl) (hPi : i ∉ P := by decide) (hPj : j ∉ P := by decide)
    (hs : swapsWithSole [.Tuple [.Name x px, .Name y py] kt pt] (.Tuple [a, b] k2 pt2) pos.line X.env = pure false := by rfl) :
    DS X T W P (.Assign [.Tuple [.Name x px, .Name y py] kt pt] (.Tuple [a, b] k2 pt2) pos) (dPar i j fs) := by
  refine PS.imp (ps_par hc hN hi hj hij hx hy ha hw hs) fun D σ H q => ?_
  obtain ⟨F, ε, k, p⟩ := q
  refine tDA_useS (g := fun rs ε1 => vPar i j ε1 rs) (S := SF X.K T H D) k Ext.refl (fun _ _ => rfl) p fun vs F1 H1 rs ε1 k1 x1 _ q1 n1 nd p1 => ?_
  unfold vPar at p1
  split at p1
  · rename_i r1 r2
    obtain ⟨v, w, rfl, h1, h2⟩ := q1
    obtain ⟨w, w0, rfl, h2, h3⟩ := h2
    have h3 : w0 = [] := h3
    subst h3
    refine ⟨v, w, rfl, ?_⟩
    by_cases hfn : (isFN r1 && isFN r2) = true
    · rw [if_pos hfn] at p1
      rw [Bool.and_eq_true] at hfn
      cases e1 : vSto i ε1 r1 with
      | none => simp only [e1] at p1; exact p1.elim
      | some ε2 =>
        simp only [e1] at p1
        cases e2 : vSto j ε2 r2 with
        | none => simp only [e2] at p1; exact p1.elim
        | some ε3 =>
          simp only [e2] at p1
          have nda : ∀ a ∈ newA r2 w, a ∉ newA r1 v := fun a ha hb => by
            have nd' : (newA r1 v ++ (newA r2 w ++ [])).Nodup := nd
            rw [List.append_nil] at nd'
            exact (List.nodup_append.mp nd').2.2 a hb a ha rfl
          obtain ⟨k2, x2⟩ := sto_fn (i := i) hfn.1 x1 k1 h1 (fun a ha => n1 a (List.mem_append_left _ ha)) e1
          have h2' := rpR_sto (i := i) h1 h2 hfn.1 hfn.2 nda e1
          obtain ⟨F3, k3, x3, s3⟩ := sto_ok (i := j) x2 k2 h2' (fun a ha => n1 a (List.mem_append_right _ (List.mem_append_left _ ha))) e2
          refine p1 F3 H1 _ k3 x3 fun l hl => ?_
          rw [List.getElem?_set_ne (fun z => hPj (by rw [z]; exact hl)), List.getElem?_set_ne (fun z => hPi (by rw [z]; exact hl))]
    · rw [if_neg hfn] at p1; exact p1.elim
  · exact p1.elim
end
end DL

/-! DL14: methods of own objects; built-in functions -/
namespace DL
open PySem PySem.Spec PyProof.Rows L2

section
variable {X : Cx} {T : Tab} {W : WX} {e a b c : Expr} {es : List Expr} {f fa fb fc : En → O R} {fs : En → O (List R)} {pos p : Pos} {P : List Nat}
/-! ### x.m(..), x a slot's own object -/
def isL : D → Bool
  | .lst _ => true
  | _ => false
def isDi : D → Bool
  | .dK _ _ => true
  | .dT _ _ => true
  | _ => false
def MtOk (K : PySem.W.Frag) (T : Tab) (M : D → List D → Option (D × D)) (r : V → List V → Hp → VK → Prop) : Prop :=
  ∀ d ds a d' p o vs F H Q, M d ds = some (a, d') → H p = some o → RpO K T F d o → Rps K T F ds vs → Same F H → (∀ v o', Rp K T F a v → RpO K T F d' o' → Q v (upd H p o')) → r (.ref p) vs H Q
def vM (i : Nat) (M : D → List D → Option (D × D)) (ε : En) (rs : List R) : O R :=
  match frzs ε rs with
  | some (ds, ε1) => match ε1[i]? with
    | some (.own d) => match M d ds with
      | some (a, d') => .ok (.fz a) (ε1.set i (.own d'))
      | none => .bad
    | _ => .bad
  | none => .bad
def dM (i : Nat) (kd : D → Bool) (M : D → List D → Option (D × D)) (fs : En → O (List R)) : En → O R := fun ε =>
  match ε[i]? with
  | some (.own d) => if kd d then (fs ε).bind fun rs ε1 => vM i M ε1 rs else .bad
  | _ => .bad
theorem vM_use {K : PySem.W.Frag} {i : Nat} {M : D → List D → Option (D × D)} {r : V → List V → Hp → VK → Prop} (hM : MtOk K T M r) {σ : L2.St} {F0 H0 F H : Hp} {ε0 ε : En} {Q : VK} {rs : List R} {vs : List V} {a0 : Addr} (k : Ok K T F H σ ε) (x : Ext F0 H0 σ ε0 F H σ ε) (q : RpRs K T F H σ ε rs vs) (n : ∀ a ∈ newAs rs vs, H0 a = none) (nd : (newAs rs vs).Nodup)
    (s0 : σ[i]? = some (some (.ref a0))) (p : Po K T W F0 H0 σ ε0 (vM i M ε rs) (SE K T H0 σ Q)) : r (.ref a0) vs H Q := by
  unfold vM at p
  cases e1 : frzs ε rs with
  | none => simp only [e1] at p; exact p.elim
  | some z =>
    obtain ⟨ds, ε1⟩ := z
    simp only [e1] at p
    obtain ⟨F1, k1, x1, r1, s1⟩ := frzs_ok x k q n nd e1
    cases e2 : ε1[i]? with
    | none => simp only [e2] at p; exact p.elim
    | some u =>
      cases u with
      | no => simp only [e2] at p; exact p.elim
      | fz d => simp only [e2] at p; exact p.elim
      | own d =>
        simp only [e2] at p
        cases e3 : M d ds with
        | none => simp only [e3] at p; exact p.elim
        | some y =>
          obtain ⟨an, d'⟩ := y
          simp only [e3] at p
          obtain ⟨a1, o1, sa, f1, g1, q1⟩ := k1.own i d e2
          rw [s0] at sa; cases sa
          refine hM d ds an d' a0 o1 vs F1 H Q e3 g1 q1 r1 k1.sub fun v o' hv ho => ?_
          exact p F1 _ (ok_write k1 e2 s0 ho) (x1.write e2 s0) v hv (by simp [newA])
theorem tyL {K : PySem.W.Frag} {F H : Hp} {d : D} {o : HO} {a : Addr} (h : isL d = true) (g : H a = some o) (q : RpO K T F d o) : tyV K "list" (.ref a) H := by
  cases d with
  | lst ds =>
    obtain ⟨vs, rfl, _⟩ := rpO_lst.mp q
    exact .inl ⟨rfl, vs, .inl (.inl g)⟩
  | _ => cases h
theorem tyDi {K : PySem.W.Frag} {F H : Hp} {d : D} {o : HO} {a : Addr} (h : isDi d = true) (g : H a = some o) (q : RpO K T F d o) : tyV K "dict" (.ref a) H := by
  cases d with
  | dK ks ds =>
    obtain ⟨vs, rfl, _⟩ := rpO_dK.mp q
    exact .inr (.inr (.inl ⟨rfl, .inl ⟨_, g⟩⟩))
  | dT ks ds =>
    obtain ⟨vs, rfl, _⟩ := rpO_dT.mp q
    exact .inr (.inr (.inl ⟨rfl, .inr ⟨_, g⟩⟩))
  | _ => cases h
theorem de_m {i : Nat} {x : Str} {px apos : Pos} {name : Str} {Ty id : String} {kd : D → Bool} {M : D → List D → Option (D × D)} {r : V → List V → Hp → VK → Prop} (pa : PlainAttrs Ty) (slot : Slot Ty name id) (hty : typeOf (.builtin id) = pure (.type "method_descriptor")) (hm : MtR X id r) (hM : MtOk X.K T M r)
    (hT : ∀ {F H : Hp} {d : D} {o : HO} {a : Addr}, kd d = true → H a = some o → RpO X.K T F d o → tyV X.K Ty (.ref a) H) (hx : PE X (.Name x px) (tVar i)) (ha : DA X T W (e :: es) fs)
    (hbase : attributeBase (.Name x px) name X.env (eval (.Name x px) X.env) = eval (.Name x px) X.env := by rfl)
    (hfew : ((backTo pos (starEach (e :: es) X.env)).all (fun x => !x.1) && (backToKw pos (keywordEach [] X.env)).all (fun x => x.1.isSome)
      && decide ((e :: es).length + ([] : List Keyword).length + (if ([] : List Keyword).isEmpty then 0 else 1) < 30)) = true := by rfl)
    (hline : (apos.endLine == pos.line) = true := by rfl) (hs : starEach (e :: es) X.env = (false, eval e X.env) :: starEach es X.env := by rfl) (hplain : (backTo pos (starEach es X.env)).any (·.1) = false := by rfl) :
    DE X T W (.Call (.Attribute (.Name x px) name apos) (e :: es) [] pos) (dM i kd M fs) := by
  refine PE.imp (pe_bm pa slot hty hm hx ha hbase hfew hline hs hplain) fun σ H Q q => ?_
  obtain ⟨F, ε, k, p⟩ := q
  unfold dM at p
  split at p
  · rename_i d0 e0
    by_cases hk : kd d0 = true
    · rw [if_pos hk] at p
      obtain ⟨a0, o0, s0, _, g0, q0⟩ := k.own i d0 e0
      refine ⟨.ref a0, s0, hT hk g0 q0, ?_⟩
      exact tDA_use (g := fun rs ε1 => vM i M ε1 rs) k Ext.refl p fun vs F1 H1 rs ε1 k1 _ x1 q1 n1 nd p1 => vM_use hM k1 x1 q1 n1 nd s0 p1
    · rw [if_neg hk] at p; exact p.elim
  · exact p.elim
theorem de_m0 {i : Nat} {x : Str} {px apos : Pos} {name : Str} {Ty id : String} {kd : D → Bool} {M : D → List D → Option (D × D)} {r : V → List V → Hp → VK → Prop} (pa : PlainAttrs Ty) (slot : Slot Ty name id) (hty : typeOf (.builtin id) = pure (.type "method_descriptor")) (hm : MtR X id r) (hM : MtOk X.K T M r)
    (hT : ∀ {F H : Hp} {d : D} {o : HO} {a : Addr}, kd d = true → H a = some o → RpO X.K T F d o → tyV X.K Ty (.ref a) H) (hx : PE X (.Name x px) (tVar i))
    (hbase : attributeBase (.Name x px) name X.env (eval (.Name x px) X.env) = eval (.Name x px) X.env := by rfl) (hline : (apos.endLine == pos.line) = true := by rfl) :
    DE X T W (.Call (.Attribute (.Name x px) name apos) [] [] pos) (dM i kd M dNil) := by
  refine PE.imp (pe_bm0 pa slot hty hm hx hbase hline) fun σ H Q q => ?_
  obtain ⟨F, ε, k, p⟩ := q
  unfold dM at p
  split at p
  · rename_i d0 e0
    by_cases hk : kd d0 = true
    · rw [if_pos hk] at p
      obtain ⟨a0, o0, s0, _, g0, q0⟩ := k.own i d0 e0
      refine ⟨.ref a0, s0, hT hk g0 q0, ?_⟩
      have p : Po X.K T W F H σ ε (vM i M ε []) (SE X.K T H σ Q) := p
      exact vM_use hM (rs := []) (vs := []) k Ext.refl rfl (by simp [newAs]) (by simp [newAs]) s0 p
    · rw [if_neg hk] at p; exact p.elim
  · exact p.elim
def mApp : D → List D → Option (D × D)
  | .lst ds, [d] => if decide (ds.length < 1000000) then some (.non, .lst (ds ++ [d])) else none
  | _, _ => none
theorem mt_app {K : PySem.W.Frag} : MtOk K T mApp rAppend := fun d ds a d' p o vs F H Q e g q r s h => by
  unfold mApp at e
  split at e
  · rename_i es y
    split at e
    · rename_i hl
      cases e
      obtain ⟨us, rfl, hu⟩ := rpO_lst.mp q
      obtain ⟨v, w, rfl, h1, h2⟩ := rps_cons.mp r
      rw [rps_nil.mp h2]
      exact ⟨p, us, v, rfl, rfl, g, by rw [hu.length]; exact line1M' (of_decide_eq_true hl), h _ _ (rp_non.mpr rfl) (rpO_lst.mpr ⟨_, rfl, hu.append (Rps.one h1)⟩)⟩
    · cases e
  · cases e
def mPopAt : D → List D → Option (D × D)
  | .lst ds, [.int i] => if smallI i then match seqIndex? i ds.length with
    | some k => match ds[k]? with
      | some d => some (d, .lst (ds.eraseIdx k))
      | none => none
    | none => none
    else none
  | _, _ => none
theorem mt_pAt {K : PySem.W.Frag} : MtOk K T mPopAt rPopAt := fun d ds a d' p o vs F H Q e g q r s h => by
  unfold mPopAt at e
  split at e
  · rename_i es i
    by_cases hi : smallI i = true
    · rw [if_pos hi] at e
      have hi := smallI_ok hi
      split at e
      · rename_i k hk
        split at e
        · rename_i y hy
          cases e
          obtain ⟨us, rfl, hu⟩ := rpO_lst.mp q
          obtain ⟨v, w, rfl, h1, h2⟩ := rps_cons.mp r
          rw [rps_nil.mp h2, rp_int.mp h1]
          obtain ⟨u, eu, ru⟩ := hu.get hy
          exact ⟨p, us, i, k, u, rfl, rfl, g, by omega, by omega, by rw [hu.length]; exact hk, eu, h _ _ ru (rpO_lst.mpr ⟨_, rfl, hu.eraseIdx k⟩)⟩
        · cases e
      · cases e
    · rw [if_neg hi] at e; cases e
  · cases e
def mPop : D → List D → Option (D × D)
  | .lst ds, [] => match ds[ds.length - 1]? with
    | some d => some (d, .lst (ds.take (ds.length - 1)))
    | none => none
  | _, _ => none
theorem mt_p0 {K : PySem.W.Frag} : MtOk K T mPop rPop := fun d ds a d' p o vs F H Q e g q r s h => by
  unfold mPop at e
  split at e
  · rename_i es
    split at e
    · rename_i y hy
      cases e
      obtain ⟨us, rfl, hu⟩ := rpO_lst.mp q
      rw [rps_nil.mp r]
      obtain ⟨u, eu, ru⟩ := hu.get hy
      refine ⟨p, us, u, rfl, rfl, g, by rw [hu.length]; exact eu, h _ _ ru (rpO_lst.mpr ⟨_, rfl, ?_⟩)⟩
      rw [List.dropLast_eq_take, hu.length]
      exact hu.take _
    · cases e
  · cases e

/-! ### t.index(k), ints -/
def gIdx : List D → D → Option D
  | ds, .int k => match toIs ds with
    | some ns => if ns.contains k then some (.int (ns.idxOf k : Nat)) else none
    | none => none
  | _, _ => none
def vTIdx (ε : En) (r : R) (rs : List R) : O R :=
  match res ε r, ress ε rs with
  | some (.tup ds), some [d] => match gIdx ds d with
    | some z => .ok (.fz z) ε
    | none => .bad
  | _, _ => .bad
def isT (ε : En) (r : R) : Bool :=
  match res ε r with
  | some (.tup _) => true
  | _ => false
def dTIdx (f : En → O R) (fs : En → O (List R)) : En → O R := fun ε => (f ε).bind fun r ε1 => if isT ε1 r then (fs ε1).bind fun rs ε2 => vTIdx ε2 r rs else .bad
theorem sqN_ty {pins : List (Addr × Obj)} {σ : L2.St} {H : Hp} {s : Shared} {a : Addr} {vs : List V} (I : Inv X pins σ H s) (q : SqN X.K H a vs) : s.TypeIs (.ref a) "tuple" ∧ ∀ b, Value.ref a = .ref b → ∃ ob, s.heap.get? b = some ob ∧ ob.dict = none := by
  rcases q with ⟨o, h, hd⟩ | ⟨o, its, n, hk, hd, hc, hs, hz, r⟩
  · obtain ⟨e, _, its, _, o', e', hc, _⟩ := (show ObjOk X.prog X.w H s.heap a (.frz o (.tup vs)) from I.hok a _ h)
    refine ⟨⟨o', e', hc⟩, fun b eb => ?_⟩
    cases eb
    exact ⟨o, e, hd⟩
  · refine ⟨⟨o, I.kIn a o hk, hc⟩, fun b eb => ?_⟩
    cases eb
    exact ⟨o, I.kIn _ o hk, hd⟩
def rTIdx (K : PySem.W.Frag) : V → List V → Hp → VK → Prop := fun x xs H Q => ∃ (a : Addr) (ns : List Int) (k : Int), x = .ref a ∧ xs = [.int k] ∧ SqT K H a (ns.map V.int) ∧ k ∈ ns ∧ Q (.int (ns.idxOf k : Nat)) H
theorem mt_tIdx : MtR X "tuple.index" (rTIdx X.K) := by
  intro pins s σ H x xs v us Q I rx rs h
  obtain ⟨a, ns, k, rfl, rfl, hq, hk, q⟩ := h
  cases rx
  obtain ⟨u, rfl, ru⟩ := rs.one
  obtain ⟨t, rfl⟩ := ru
  obtain ⟨its, r, pl, hz⟩ := I.tuple hq
  exact SeqAt.tuple_index_ints (show s.heap.IsTuple a its.toArray from pl) r.ints hk ⟨.int (ns.idxOf k : Nat), H, I.tok _, ⟨_, rfl⟩, q⟩
theorem pe_tIdx {o : Expr} {to : TE} {t : TA} {apos : Pos} (ho : PE X o to) (ha : PA X (e :: es) t) (hbase : attributeBase o "index" X.env (eval o X.env) = eval o X.env := by rfl)
    (hfew : ((backTo pos (starEach (e :: es) X.env)).all (fun x => !x.1) && (backToKw pos (keywordEach [] X.env)).all (fun x => x.1.isSome)
      && decide ((e :: es).length + ([] : List Keyword).length + (if ([] : List Keyword).isEmpty then 0 else 1) < 30)) = true := by rfl)
    (hline : (apos.endLine == pos.line) = true := by rfl) (hs : starEach (e :: es) X.env = (false, eval e X.env) :: starEach es X.env := by rfl) (hplain : (backTo pos (starEach es X.env)).any (·.1) = false := by rfl) :
    PE X (.Call (.Attribute o "index" apos) (e :: es) [] pos) (fun σ H Q => to σ H fun x H1 => (∃ a vs, x = .ref a ∧ SqN X.K H1 a vs) ∧ t σ H1 fun xs H2 => rTIdx X.K x xs H2 Q) := by
  refine ⟨fun pins s σ H Q I h => ?_⟩
  refine wpAny_Call_method_late hbase hfew hline rfl (thn (ho.run pins s σ H _ I h) fun v s1 ⟨x, H1, I1, r1, ty, q1⟩ => ?_)
  obtain ⟨a, vs, rfl, hq⟩ := ty
  cases r1
  obtain ⟨h1, h2⟩ := sqN_ty I1 hq
  refine ⟨"tuple", "tuple.index", F.plainAttrs_tuple, F.slot_tuple_index, F.type_tuple_index, h1, h2, ?_⟩
  have hA := ha.run pos pins s1 σ H1 _ I1 q1
  rw [hs] at hA ⊢
  refine Calls.callWith_builtin (by show (false || (backTo pos (starEach es X.env)).any (·.1)) = false; rw [hplain] <;> rfl) (Calls.evalArgs_plain ?_)
  exact thn hA fun us s2 ⟨ws, H2, I2, r2, q2⟩ => mt_tIdx pins s2 σ H2 (.ref a) ws (.ref a) us Q I2 rfl r2 q2
theorem de_tIdx {o : Expr} {apos : Pos} (ho : DE X T W o f) (ha : DA X T W (e :: es) fs) (hbase : attributeBase o "index" X.env (eval o X.env) = eval o X.env := by rfl)
    (hfew : ((backTo pos (starEach (e :: es) X.env)).all (fun x => !x.1) && (backToKw pos (keywordEach [] X.env)).all (fun x => x.1.isSome)
      && decide ((e :: es).length + ([] : List Keyword).length + (if ([] : List Keyword).isEmpty then 0 else 1) < 30)) = true := by rfl)
    (hline : (apos.endLine == pos.line) = true := by rfl) (hs : starEach (e :: es) X.env = (false, eval e X.env) :: starEach es X.env := by rfl) (hplain : (backTo pos (starEach es X.env)).any (·.1) = false := by rfl) :
    DE X T W (.Call (.Attribute o "index" apos) (e :: es) [] pos) (dTIdx f fs) := by
  refine PE.imp (pe_tIdx ho ha hbase hfew hline hs hplain) fun σ H Q q => ?_
  obtain ⟨F, ε, k, p⟩ := q
  refine tD_use (g := fun r ε1 => if isT ε1 r then (fs ε1).bind fun rs ε2 => vTIdx ε2 r rs else .bad) k Ext.refl p fun v F1 H1 r ε1 k1 _ x1 q1 n1 p1 => ?_
  by_cases hT : isT ε1 r = true
  · rw [if_pos hT] at p1
    have ht : ∃ ds, res ε1 r = some (.tup ds) := by
      unfold isT at hT
      split at hT
      · rename_i ds e; exact ⟨ds, e⟩
      · cases hT
    obtain ⟨ds0, e0⟩ := ht
    obtain ⟨a0, vs0, rfl, hq0, _⟩ := res_rpi k1 q1 e0
    refine ⟨⟨a0, vs0, rfl, hq0.mono k1.sub⟩, ?_⟩
    refine tDA_use (g := fun rs ε2 => vTIdx ε2 r rs) k1 x1 p1 fun vs F2 H2 rs ε2 k2 y2 x2 q2 n2 nd p2 => ?_
    unfold vTIdx at p2
    split at p2
    · rename_i ds d e1 e2
      cases e3 : gIdx ds d with
      | none => simp only [e3] at p2; exact p2.elim
      | some z =>
        simp only [e3] at p2
        obtain ⟨a1, vs1, ev, hq1, hr1⟩ := res_rpi k2 (q1.ext y2) e1
        obtain ⟨w, rfl, hw⟩ := rpis1 (ress_rpis k2 q2 e2)
        unfold gIdx at e3
        split at e3
        · rename_i kk
          split at e3
          · rename_i ns hns
            split at e3
            · rename_i hc
              cases e3
              rw [rps_ints hns hr1] at hq1
              exact ⟨a1, ns, kk, ev, by rw [rpi_int hw], (hq1.mono k2.sub).t, by simpa using hc, SE.flat (H' := H2) k2 x2 p2 rfl (rp_int.mpr rfl)⟩
            · cases e3
          · cases e3
        · cases e3
    · exact p2.elim
  · rw [if_neg hT] at p1; exact p1.elim
end
end DL

/-! DL15: built-in functions -/
namespace DL
open PySem PySem.Spec PyProof.Rows L2

section
variable {X : Cx} {T : Tab} {W : WX} {e a b c : Expr} {es : List Expr} {f fa fb fc : En → O R} {fs : En → O (List R)} {pos p : Pos} {P : List Nat}
theorem nw_lst {K : PySem.W.Frag} {F H : Hp} {ds : List D} {Q : VK} (q : An.ok K T F H (.nw (.lst ds)) Q) : ∀ (p : Addr) (vs : List V), H p = none → Rps K T F ds vs → Q (.ref p) (upd H p (.lst vs)) := fun p vs hp r => q p _ hp (rpO_lst.mpr ⟨vs, rfl, r⟩)

/-! ### len -/
def gLen : List D → Option An
  | [.lst ds] => some (.fz (.int (ds.length : Nat)))
  | [.tup ds] => some (.fz (.int (ds.length : Nat)))
  | [.str x] => if x.length ≤ big then some (.fz (.int (x.length : Nat))) else none
  | _ => none
def rLen (K : PySem.W.Frag) : List V → Hp → VK → Prop := fun xs H Q => ∃ x n, xs = [x] ∧ LenV K x H n ∧ Q (.int n) H
theorem fn_len {K : PySem.W.Frag} : FnA K T gLen (rLen K) := fun ds a vs F H Q e r s q => by
  unfold gLen at e
  split at e
  · cases e
    obtain ⟨v, rfl, b, us, rfl, hq, hr⟩ := rpis1 r
    exact ⟨_, _, rfl, .inl ⟨us, hq, rfl⟩, by rw [hr.length]; exact q _ (rp_int.mpr rfl)⟩
  · cases e
    obtain ⟨v, rfl, b, us, rfl, hq, hr⟩ := rpis1 r
    exact ⟨_, _, rfl, .inr ⟨us, (hq.mono s).t, rfl⟩, by rw [hr.length]; exact q _ (rp_int.mpr rfl)⟩
  · split at e
    · rename_i hl
      cases e
      obtain ⟨v, rfl, hv⟩ := rpis1 r
      rw [rpi_str hv]
      exact ⟨_, _, rfl, ⟨bigLine hl, rfl⟩, q _ (rp_int.mpr rfl)⟩
    · cases e
  · cases e

/-! ### isinstance, built-in types -/
def kn : D → Nat
  | .non => 0 | .bl _ => 1 | .int _ => 2 | .str _ => 3 | .lst _ => 4 | .tup _ => 5 | .dK _ _ => 6 | .dT _ _ => 6
  | _ => 9
def tn (k : Nat) : String := if k = 0 then "NoneType" else if k = 1 then "bool" else if k = 2 then "int" else if k = 3 then "str" else if k = 4 then "list" else if k = 5 then "tuple" else "dict"
def isTy (k : Nat) (n : String) : Option Bool :=
  if k ≤ 6 then
    if n = "int" then some (k == 1 || k == 2) else if n = "bool" then some (k == 1) else if n = "str" then some (k == 3) else if n = "list" then some (k == 4) else if n = "tuple" then some (k == 5) else if n = "dict" then some (k == 6) else none
  else none
def gIsi : List D → Option An
  | [d, .ty n] => match isTy (kn d) n with
    | some b => some (.fz (.bl b))
    | none => none
  | _ => none
theorem isTy_kit {k : Nat} {n : String} {b : Bool} (h : isTy k n = some b) : k ≤ 6 ∧ kitB (tn k) n = some b := by
  unfold isTy at h
  split at h
  · rename_i hk
    refine ⟨hk, ?_⟩
    have hk' : k = 0 ∨ k = 1 ∨ k = 2 ∨ k = 3 ∨ k = 4 ∨ k = 5 ∨ k = 6 := by omega
    split at h
    · rename_i hn; subst hn; cases h
      rcases hk' with q | q | q | q | q | q | q <;> subst q <;> decide +kernel
    · split at h
      · rename_i hn; subst hn; cases h
        rcases hk' with q | q | q | q | q | q | q <;> subst q <;> decide +kernel
      · split at h
        · rename_i hn; subst hn; cases h
          rcases hk' with q | q | q | q | q | q | q <;> subst q <;> decide +kernel
        · split at h
          · rename_i hn; subst hn; cases h
            rcases hk' with q | q | q | q | q | q | q <;> subst q <;> decide +kernel
          · split at h
            · rename_i hn; subst hn; cases h
              rcases hk' with q | q | q | q | q | q | q <;> subst q <;> decide +kernel
            · split at h
              · rename_i hn; subst hn; cases h
                rcases hk' with q | q | q | q | q | q | q <;> subst q <;> decide +kernel
              · cases h
  · cases h
theorem sqL_ty {K : PySem.W.Frag} {H : Hp} {a : Addr} {vs : List V} (q : SqL K H a vs) : TyX K H (.ref a) (.type "list") := by
  rcases q with (h | ⟨o, h⟩) | ⟨o, its, n, hk, hc, _⟩
  · exact .base (.lst h)
  · exact .base (.frz h)
  · exact .kList hk hc
theorem sqN_tyX {K : PySem.W.Frag} {H : Hp} {a : Addr} {vs : List V} (q : SqN K H a vs) : TyX K H (.ref a) (.type "tuple") := by
  rcases q with ⟨o, h, _⟩ | ⟨o, its, n, hk, _, hc, _⟩
  · exact .fTuple h
  · exact .kTuple hk hc
theorem kn_ty {K : PySem.W.Frag} {F H : Hp} (s : Same F H) {d : D} {v : V} (hk : kn d ≤ 5) (r : RpI K T F H d v) : TyX K H v (.type (tn (kn d))) := by
  cases d with
  | non => rw [show v = .non from r]; exact .base .non
  | bl b => rw [show v = .bl b from r]; exact .base (.bl b)
  | int b => rw [show v = .int b from r]; exact .base (.int b)
  | str b => rw [show v = .str b from r]; exact .base (.str b)
  | lst ds => obtain ⟨a, vs, rfl, q, _⟩ := r; exact sqL_ty q
  | tup ds => obtain ⟨a, vs, rfl, q, _⟩ := r; exact sqN_tyX (q.mono s)
  | dK ks ds => exact absurd hk (by simp [kn])
  | dT ks ds => exact absurd hk (by simp [kn])
  | ins c fs ds => exact absurd hk (by simp [kn])
  | fn n => exact absurd hk (by simp [kn])
  | ty n => exact absurd hk (by simp [kn])
theorem kn_ty6 {K : PySem.W.Frag} {F H : Hp} (s : Same F H) {d : D} {v : V} (hk : kn d ≤ 6) (r : RpI K T F H d v) (hno : ∀ (a : Addr) (o : Obj) (u : HO), v = .ref a → H a = some (.frz o u) → ∃ vs, u = .tup vs ∨ u = .lst vs) : TyX K H v (.type (tn (kn d))) := by
  by_cases h5 : kn d ≤ 5
  · exact kn_ty s h5 r
  · cases d with
    | dK ks ds =>
      obtain ⟨a, vs, rfl, q, _⟩ := r
      rcases q with q | ⟨o, q⟩
      · exact .base (.dK q)
      · exact .fDict q
    | dT ks ds =>
      obtain ⟨a, vs, rfl, q, _⟩ := r
      rcases q with q | ⟨o, q⟩
      · exact .base (.dT q)
      · obtain ⟨vs, h | h⟩ := hno a o _ rfl q <;> cases h
    | non => exact absurd (by simp [kn]) h5
    | bl b => exact absurd (by simp [kn]) h5
    | int b => exact absurd (by simp [kn]) h5
    | str b => exact absurd (by simp [kn]) h5
    | lst ds => exact absurd (by simp [kn]) h5
    | tup ds => exact absurd (by simp [kn]) h5
    | ins c fs ds => exact absurd hk (by simp [kn])
    | fn n => exact absurd hk (by simp [kn])
    | ty n => exact absurd hk (by simp [kn])
def gIsi5 : List D → Option An
  | [d, .ty n] => if kn d ≤ 5 then match isTy (kn d) n with
    | some b => some (.fz (.bl b))
    | none => none
    else none
  | _ => none
theorem fn_isi {K : PySem.W.Frag} : FnA K T gIsi5 (rIsi K) := fun ds a vs F H Q e r s q => by
  unfold gIsi5 at e
  split at e
  · rename_i d n
    obtain ⟨v, v2, rfl, h1, h2⟩ := rpis2 r
    split at e
    · rename_i hk
      split at e
      · rename_i b hb
        cases e
        rw [show v2 = .ty n from h2]
        exact ⟨v, .ty n, .type (tn (kn d)), .type n, b, rfl, .ty n, kn_ty s hk h1, kit_ty (isTy_kit hb).2, q _ (rp_bl.mpr rfl)⟩
      · cases e
    · cases e
  · cases e

/-! ### all, any -/
def gAll : List D → Option An
  | [.lst ds] => (toBs ds).map fun bs => .fz (.bl (bs.all id))
  | _ => none
def gAny : List D → Option An
  | [.lst ds] => (toBs ds).map fun bs => .fz (.bl (bs.any id))
  | _ => none
theorem fn_all {K : PySem.W.Frag} : FnA K T gAll (rAll K) := fun ds a vs F H Q e r s q => by
  unfold gAll at e
  split at e
  · rename_i ds
    obtain ⟨v, rfl, b, us, rfl, hq, hr⟩ := rpis1 r
    cases e1 : toBs ds with
    | none => rw [e1] at e; cases e
    | some bs =>
      rw [e1] at e
      cases e
      rw [toBs_map e1] at hr
      rw [rps_bls hr] at hq
      exact ⟨b, bs, rfl, hq, q _ (rp_bl.mpr rfl)⟩
  · cases e
theorem fn_any {K : PySem.W.Frag} : FnA K T gAny (rAny K) := fun ds a vs F H Q e r s q => by
  unfold gAny at e
  split at e
  · rename_i ds
    obtain ⟨v, rfl, b, us, rfl, hq, hr⟩ := rpis1 r
    cases e1 : toBs ds with
    | none => rw [e1] at e; cases e
    | some bs =>
      rw [e1] at e
      cases e
      rw [toBs_map e1] at hr
      rw [rps_bls hr] at hq
      exact ⟨b, bs, rfl, hq, q _ (rp_bl.mpr rfl)⟩
  · cases e

/-! ### int, abs, max, min of two -/
def gInt : List D → Option An
  | [.int i] => some (.fz (.int i))
  | [.bl b] => some (.fz (.int (if b then 1 else 0)))
  | _ => none
def gAbs : List D → Option An
  | [.int i] => some (.fz (.int (if i < 0 then -i else i)))
  | _ => none
def gMax2 : List D → Option An
  | [.int i, .int j] => some (.fz (.int (if j > i then j else i)))
  | _ => none
def gMin2 : List D → Option An
  | [.int i, .int j] => some (.fz (.int (if j < i then j else i)))
  | _ => none
theorem fn_int {K : PySem.W.Frag} : FnA K T gInt (fun xs H Q => (∃ i, xs = [.int i] ∧ Q (.int i) H) ∨ ∃ k, xs = [.bl k] ∧ Q (.int (if k then 1 else 0)) H) := fun ds a vs F H Q e r s q => by
  unfold gInt at e
  split at e
  · rename_i i
    obtain ⟨v, rfl, h1⟩ := rpis1 r
    cases e
    exact .inl ⟨i, by rw [rpi_int h1], q _ (rp_int.mpr rfl)⟩
  · rename_i i
    obtain ⟨v, rfl, h1⟩ := rpis1 r
    cases e
    exact .inr ⟨i, by rw [rpi_bl h1], q _ (rp_int.mpr rfl)⟩
  · cases e
theorem fn_abs {K : PySem.W.Frag} : FnA K T gAbs (fun xs H Q => ∃ i, xs = [.int i] ∧ Q (.int (if i < 0 then -i else i)) H) := fun ds a vs F H Q e r s q => by
  unfold gAbs at e
  split at e
  · rename_i i
    obtain ⟨v, rfl, h1⟩ := rpis1 r
    cases e
    exact ⟨i, by rw [rpi_int h1], q _ (rp_int.mpr rfl)⟩
  · cases e
theorem fn_max2 {K : PySem.W.Frag} : FnA K T gMax2 (fun xs H Q => ∃ i j, xs = [.int i, .int j] ∧ Q (.int (if j > i then j else i)) H) := fun ds a vs F H Q e r s q => by
  unfold gMax2 at e
  split at e
  · rename_i i j
    obtain ⟨v, v2, rfl, h1, h2⟩ := rpis2 r
    cases e
    exact ⟨i, j, by rw [rpi_int h1, rpi_int h2], q _ (rp_int.mpr rfl)⟩
  · cases e
theorem fn_min2 {K : PySem.W.Frag} : FnA K T gMin2 (fun xs H Q => ∃ i j, xs = [.int i, .int j] ∧ Q (.int (if j < i then j else i)) H) := fun ds a vs F H Q e r s q => by
  unfold gMin2 at e
  split at e
  · rename_i i j
    obtain ⟨v, v2, rfl, h1, h2⟩ := rpis2 r
    cases e
    exact ⟨i, j, by rw [rpi_int h1, rpi_int h2], q _ (rp_int.mpr rfl)⟩
  · cases e

/-! ### sum, max, min, sorted of ints in a list -/
def gSum : List D → Option An
  | [.lst ds] => (toIs ds).map fun ns => .fz (.int ns.sum)
  | _ => none
def best (gt : Int → Int → Bool) : List Int → Option Int
  | [] => none
  | n :: ns => match best gt ns with
    | some m => some (if gt m n then m else n)
    | none => some n
def gMax1 : List D → Option An
  | [.lst ds] => match toIs ds with
    | some ns => (best (fun m n => decide (n < m)) ns).map fun m => .fz (.int m)
    | none => none
  | _ => none
def gMin1 : List D → Option An
  | [.lst ds] => match toIs ds with
    | some ns => (best (fun m n => decide (m < n)) ns).map fun m => .fz (.int m)
    | none => none
  | _ => none
theorem best_max : ∀ {ns : List Int} {m : Int}, best (fun m n => decide (n < m)) ns = some m → m ∈ ns ∧ ∀ y, y ∈ ns → y ≤ m
  | [], m, h => by cases h
  | n :: ns, m, h => by
    unfold best at h
    cases e : best (fun m n => decide (n < m)) ns with
    | none =>
      simp only [e] at h
      cases h
      cases ns with
      | nil => exact ⟨by simp, fun y hy => by simp at hy; omega⟩
      | cons a as =>
        unfold best at e
        split at e <;> cases e
    | some k =>
      simp only [e] at h
      cases h
      obtain ⟨h1, h2⟩ := best_max e
      by_cases c : n < k
      · simp only [c, decide_true, if_true]
        refine ⟨List.mem_cons_of_mem _ h1, fun y hy => ?_⟩
        rcases List.mem_cons.mp hy with rfl | hy
        · omega
        · exact h2 y hy
      · simp only [c, decide_false]
        refine ⟨List.mem_cons_self, fun y hy => ?_⟩
        rcases List.mem_cons.mp hy with rfl | hy
        · exact Int.le_refl _
        · have := h2 y hy
          simp; omega
theorem best_min : ∀ {ns : List Int} {m : Int}, best (fun m n => decide (m < n)) ns = some m → m ∈ ns ∧ ∀ y, y ∈ ns → m ≤ y
  | [], m, h => by cases h
  | n :: ns, m, h => by
    unfold best at h
    cases e : best (fun m n => decide (m < n)) ns with
    | none =>
      simp only [e] at h
      cases h
      cases ns with
      | nil => exact ⟨by simp, fun y hy => by simp at hy; omega⟩
      | cons a as =>
        unfold best at e
        split at e <;> cases e
    | some k =>
      simp only [e] at h
      cases h
      obtain ⟨h1, h2⟩ := best_min e
      by_cases c : k < n
      · simp only [c, decide_true, if_true]
        refine ⟨List.mem_cons_of_mem _ h1, fun y hy => ?_⟩
        rcases List.mem_cons.mp hy with rfl | hy
        · omega
        · exact h2 y hy
      · simp only [c, decide_false]
        refine ⟨List.mem_cons_self, fun y hy => ?_⟩
        rcases List.mem_cons.mp hy with rfl | hy
        · exact Int.le_refl _
        · have := h2 y hy
          simp; omega
theorem fn_sum {K : PySem.W.Frag} : FnA K T gSum (rSum K) := fun ds a vs F H Q e r s q => by
  unfold gSum at e
  split at e
  · rename_i ds
    obtain ⟨v, rfl, b, us, rfl, hq, hr⟩ := rpis1 r
    cases e1 : toIs ds with
    | none => rw [e1] at e; cases e
    | some ns =>
      rw [e1] at e
      cases e
      rw [rps_ints e1 hr] at hq
      exact ⟨b, ns, rfl, hq, q _ (rp_int.mpr rfl)⟩
  · cases e
theorem fn_max1 {K : PySem.W.Frag} : FnA K T gMax1 (rMax K) := fun ds a vs F H Q e r s q => by
  unfold gMax1 at e
  split at e
  · rename_i ds
    obtain ⟨v, rfl, b, us, rfl, hq, hr⟩ := rpis1 r
    split at e
    · rename_i ns e1
      cases e2 : best (fun m n => decide (n < m)) ns with
      | none => rw [e2] at e; cases e
      | some m =>
        rw [e2] at e
        cases e
        rw [rps_ints e1 hr] at hq
        obtain ⟨h1, h2⟩ := best_max e2
        refine ⟨b, ns, rfl, hq, List.length_pos_of_mem h1, fun m' h3 h4 => ?_⟩
        have : m' = m := Int.le_antisymm (h2 m' h3) (h4 m h1)
        subst this
        exact q _ (rp_int.mpr rfl)
    · cases e
  · cases e
theorem fn_min1 {K : PySem.W.Frag} : FnA K T gMin1 (rMin K) := fun ds a vs F H Q e r s q => by
  unfold gMin1 at e
  split at e
  · rename_i ds
    obtain ⟨v, rfl, b, us, rfl, hq, hr⟩ := rpis1 r
    split at e
    · rename_i ns e1
      cases e2 : best (fun m n => decide (m < n)) ns with
      | none => rw [e2] at e; cases e
      | some m =>
        rw [e2] at e
        cases e
        rw [rps_ints e1 hr] at hq
        obtain ⟨h1, h2⟩ := best_min e2
        refine ⟨b, ns, rfl, hq, List.length_pos_of_mem h1, fun m' h3 h4 => ?_⟩
        have : m' = m := Int.le_antisymm (h4 m h1) (h2 m' h3)
        subst this
        exact q _ (rp_int.mpr rfl)
    · cases e
  · cases e
def ins1 (n : Int) : List Int → List Int
  | [] => [n]
  | m :: ms => if n ≤ m then n :: m :: ms else m :: ins1 n ms
def srt : List Int → List Int
  | [] => []
  | n :: ns => ins1 n (srt ns)
theorem ins1_perm (n : Int) : ∀ ms : List Int, (ins1 n ms).Perm (n :: ms)
  | [] => List.Perm.refl _
  | m :: ms => by
    unfold ins1
    split
    · exact List.Perm.refl _
    · exact ((ins1_perm n ms).cons m).trans (List.Perm.swap n m ms)
theorem srt_perm : ∀ ns : List Int, (srt ns).Perm ns
  | [] => List.Perm.refl _
  | n :: ns => (ins1_perm n (srt ns)).trans ((srt_perm ns).cons n)
theorem ins1_srt (n : Int) : ∀ ms : List Int, ms.Pairwise (· ≤ ·) → (ins1 n ms).Pairwise (· ≤ ·)
  | [], _ => by unfold ins1; exact List.pairwise_singleton _ _
  | m :: ms, h => by
    unfold ins1
    rw [List.pairwise_cons] at h
    split
    · rename_i hn
      refine List.pairwise_cons.mpr ⟨fun y hy => ?_, List.pairwise_cons.mpr h⟩
      rcases List.mem_cons.mp hy with rfl | hy
      · exact hn
      · exact Int.le_trans hn (h.1 y hy)
    · rename_i hn
      refine List.pairwise_cons.mpr ⟨fun y hy => ?_, ins1_srt n ms h.2⟩
      rcases List.mem_cons.mp ((ins1_perm n ms).mem_iff.mp hy) with rfl | hy
      · omega
      · exact h.1 y hy
theorem srt_srt : ∀ ns : List Int, (srt ns).Pairwise (· ≤ ·)
  | [] => List.Pairwise.nil
  | n :: ns => ins1_srt n _ (srt_srt ns)
theorem srt_unique : ∀ {as bs : List Int}, as.Perm bs → as.Pairwise (· ≤ ·) → bs.Pairwise (· ≤ ·) → as = bs
  | [], bs, p, _, _ => (List.nil_perm.mp p).symm
  | a :: as, bs, p, h1, h2 => by
    cases bs with
    | nil => exact absurd (List.perm_nil.mp p) (by simp)
    | cons b bs =>
      rw [List.pairwise_cons] at h1 h2
      have hab : a = b := by
        have ha : a ∈ b :: bs := p.mem_iff.mp List.mem_cons_self
        have hb : b ∈ a :: as := p.mem_iff.mpr List.mem_cons_self
        rcases List.mem_cons.mp ha with rfl | ha
        · rfl
        · rcases List.mem_cons.mp hb with rfl | hb
          · rfl
          · exact Int.le_antisymm (h1.1 b hb) (h2.1 a ha)
      subst hab
      rw [srt_unique (List.Perm.cons_inv p) h1.2 h2.2]
theorem srt_of {as bs : List Int} (p : as.Perm bs) (h : as.Pairwise (· ≤ ·)) : as = srt bs := srt_unique (p.trans (srt_perm bs).symm) h (srt_srt bs)
def gSorted : List D → Option An
  | [.lst ds] => (toIs ds).map fun ns => .nw (.lst ((srt ns).map .int))
  | _ => none
theorem fn_sorted {K : PySem.W.Frag} : FnA K T gSorted (rSortedI K) := fun ds a vs F H Q e r s q => by
  unfold gSorted at e
  split at e
  · rename_i ds
    obtain ⟨v, rfl, b, us, rfl, hq, hr⟩ := rpis1 r
    cases e1 : toIs ds with
    | none => rw [e1] at e; cases e
    | some ns =>
      rw [e1] at e
      cases e
      rw [rps_ints e1 hr] at hq
      refine ⟨b, ns, rfl, hq, fun ns' p hp hs hn => ?_⟩
      rw [srt_of hp hs]
      exact nw_lst q p _ hn ((Rps.ints _ _).mpr rfl)
  · cases e

/-! ### list(x), tuple(x) -/
def gList : List D → Option An
  | [.lst ds] => some (.nw (.lst ds))
  | [.tup ds] => some (.nw (.lst ds))
  | _ => none
def gTuple : List D → Option An
  | [.lst ds] => some (.nt ds)
  | [.tup ds] => some (.fz (.tup ds))
  | _ => none
theorem fn_list {K : PySem.W.Frag} : FnA K T gList (fun xs H Q => ∃ p ys, xs = [.ref p] ∧ (SqL K H p ys ∨ SqT K H p ys) ∧ ∀ l, H l = none → Q (.ref l) (upd H l (.lst ys))) := fun ds a vs F H Q e r s q => by
  unfold gList at e
  split at e
  · rename_i ds
    obtain ⟨v, rfl, b, us, rfl, hq, hr⟩ := rpis1 r
    cases e
    exact ⟨b, us, rfl, .inl hq, fun l hl => nw_lst q l us hl hr⟩
  · rename_i ds
    obtain ⟨v, rfl, b, us, rfl, hq, hr⟩ := rpis1 r
    cases e
    exact ⟨b, us, rfl, .inr (hq.mono s).t, fun l hl => nw_lst q l us hl hr⟩
  · cases e
def rTupN (K : PySem.W.Frag) : List V → Hp → VK → Prop := fun xs H Q => ∃ p ys, xs = [.ref p] ∧ ((SqL K H p ys ∧ NewT Q H ys) ∨ (SqT K H p ys ∧ Q (.ref p) H))
theorem call_tupN : CallR X (.type "tuple") (rTupN X.K) := by
  intro pins s σ H xs us Q I r h
  obtain ⟨p, ys, rfl, h⟩ := h
  obtain ⟨u, rfl, rx⟩ := vals1 r
  cases rx
  rcases h with ⟨hq, q⟩ | ⟨hq, q⟩
  · obtain ⟨its, r', pl, hz⟩ := I.list hq
    have hlen := r'.length
    refine call_tuple_list pl.isList (fun h' kp => ?_) (by simp only [List.size_toArray] <;> omega)
    have I1 : Inv X pins σ H { s with heap := h' } := I.kept (t' := s.toks) kp
    exact ⟨.ref h'.objs.size, _, I1.laid (t' := s.toks) (fun b o e => Heap.get?_push_of_some _ e) (Nat.le_refl _) (tup_new (Heap.get?_push_size _ rfl) rfl r' hz), rfl, q _ _ (I1.hok.fresh (Nat.le_refl _)) rfl⟩
  · obtain ⟨its, r', pl, hz⟩ := I.tuple hq
    exact call_tuple_same pl ⟨.ref p, H, I, rfl, q⟩
theorem fn_tuple {K : PySem.W.Frag} : FnA K T gTuple (rTupN K) := fun ds a vs F H Q e r s q => by
  unfold gTuple at e
  split at e
  · rename_i ds
    obtain ⟨v, rfl, b, us, rfl, hq, hr⟩ := rpis1 r
    cases e
    exact ⟨b, us, rfl, .inl ⟨hq, fun l o hl ho => q.1 l o us hl ho hr⟩⟩
  · rename_i ds
    obtain ⟨v, rfl, b, us, rfl, hq, hr⟩ := rpis1 r
    cases e
    exact ⟨b, us, rfl, .inr ⟨(hq.mono s).t, q _ (rp_tup.mpr ⟨b, us, rfl, hq, hr⟩)⟩⟩
  · cases e

/-! ### the rules -/
variable {x : Str}
theorem de_len (gl : Gl X "len") (hm : X.mg "len" = none) (ha : DA X T W [e] fs) (he : starEach [e] X.env = (false, eval e X.env) :: starEach [] X.env := by rfl) : DE X T W (.Call (.Name "len" p) [e] [] pos) (dFn gLen fs) := de_fn call_len fn_len gl hm ha (he := he)
theorem de_isi (gl : Gl X "isinstance") (hm : X.mg "isinstance" = none) (ha : DA X T W [e, b] fs) (he : starEach [e, b] X.env = (false, eval e X.env) :: starEach [b] X.env := by rfl) (hpl : (backTo pos (starEach [b] X.env)).any (·.1) = false := by rfl) : DE X T W (.Call (.Name "isinstance" p) [e, b] [] pos) (dFn gIsi5 fs) := de_fn call_isi fn_isi gl hm ha (he := he) (hpl := hpl)
theorem de_all (hc : X.calm = true) (gl : Gl X "all") (hm : X.mg "all" = none) (ha : DA X T W [e] fs) (he : starEach [e] X.env = (false, eval e X.env) :: starEach [] X.env := by rfl) : DE X T W (.Call (.Name "all" p) [e] [] pos) (dFn gAll fs) := de_fn (cr_all hc) fn_all gl hm ha (he := he)
theorem de_any (hc : X.calm = true) (gl : Gl X "any") (hm : X.mg "any" = none) (ha : DA X T W [e] fs) (he : starEach [e] X.env = (false, eval e X.env) :: starEach [] X.env := by rfl) : DE X T W (.Call (.Name "any" p) [e] [] pos) (dFn gAny fs) := de_fn (cr_any hc) fn_any gl hm ha (he := he)
theorem de_intF (gl : Gl X "int") (hm : X.mg "int" = none) (ha : DA X T W [e] fs) (he : starEach [e] X.env = (false, eval e X.env) :: starEach [] X.env := by rfl) : DE X T W (.Call (.Name "int" p) [e] [] pos) (dFn gInt fs) := de_fnTy call_int1 fn_int gl hm ha (he := he)
theorem de_abs (gl : Gl X "abs") (hm : X.mg "abs" = none) (ha : DA X T W [e] fs) (he : starEach [e] X.env = (false, eval e X.env) :: starEach [] X.env := by rfl) : DE X T W (.Call (.Name "abs" p) [e] [] pos) (dFn gAbs fs) := de_fn call_abs fn_abs gl hm ha (he := he)
theorem de_max2 (hc : X.calm = true) (gl : Gl X "max") (hm : X.mg "max" = none) (ha : DA X T W [e, b] fs) (he : starEach [e, b] X.env = (false, eval e X.env) :: starEach [b] X.env := by rfl) (hpl : (backTo pos (starEach [b] X.env)).any (·.1) = false := by rfl) : DE X T W (.Call (.Name "max" p) [e, b] [] pos) (dFn gMax2 fs) := de_fn (call_max2 hc) fn_max2 gl hm ha (he := he) (hpl := hpl)
theorem de_min2 (hc : X.calm = true) (gl : Gl X "min") (hm : X.mg "min" = none) (ha : DA X T W [e, b] fs) (he : starEach [e, b] X.env = (false, eval e X.env) :: starEach [b] X.env := by rfl) (hpl : (backTo pos (starEach [b] X.env)).any (·.1) = false := by rfl) : DE X T W (.Call (.Name "min" p) [e, b] [] pos) (dFn gMin2 fs) := de_fn (call_min2 hc) fn_min2 gl hm ha (he := he) (hpl := hpl)
theorem de_sum (hc : X.calm = true) (gl : Gl X "sum") (hm : X.mg "sum" = none) (ha : DA X T W [e] fs) (he : starEach [e] X.env = (false, eval e X.env) :: starEach [] X.env := by rfl) : DE X T W (.Call (.Name "sum" p) [e] [] pos) (dFn gSum fs) := de_fn (cr_sum hc) fn_sum gl hm ha (he := he)
theorem de_max1 (hc : X.calm = true) (gl : Gl X "max") (hm : X.mg "max" = none) (ha : DA X T W [e] fs) (he : starEach [e] X.env = (false, eval e X.env) :: starEach [] X.env := by rfl) : DE X T W (.Call (.Name "max" p) [e] [] pos) (dFn gMax1 fs) := de_fn (cr_max hc) fn_max1 gl hm ha (he := he)
theorem de_min1 (hc : X.calm = true) (gl : Gl X "min") (hm : X.mg "min" = none) (ha : DA X T W [e] fs) (he : starEach [e] X.env = (false, eval e X.env) :: starEach [] X.env := by rfl) : DE X T W (.Call (.Name "min" p) [e] [] pos) (dFn gMin1 fs) := de_fn (cr_min hc) fn_min1 gl hm ha (he := he)
theorem de_sorted (gl : Gl X "sorted") (hm : X.mg "sorted" = none) (ha : DA X T W [e] fs) (he : starEach [e] X.env = (false, eval e X.env) :: starEach [] X.env := by rfl) : DE X T W (.Call (.Name "sorted" p) [e] [] pos) (dFn gSorted fs) := de_fn cr_sortedI fn_sorted gl hm ha (he := he)
theorem de_list (gl : Gl X "list") (hm : X.mg "list" = none) (ha : DA X T W [e] fs) (he : starEach [e] X.env = (false, eval e X.env) :: starEach [] X.env := by rfl) : DE X T W (.Call (.Name "list" p) [e] [] pos) (dFn gList fs) := de_fnTy call_list_of fn_list gl hm ha (he := he)
theorem de_tuple (gl : Gl X "tuple") (hm : X.mg "tuple" = none) (ha : DA X T W [e] fs) (he : starEach [e] X.env = (false, eval e X.env) :: starEach [] X.env := by rfl) : DE X T W (.Call (.Name "tuple" p) [e] [] pos) (dFn gTuple fs) := de_fnTy call_tupN fn_tuple gl hm ha (he := he)
end
end DL

/-! DL16: list(range(..)), tuple(range(..)), len(set(..)); what is not looked at -/
namespace DL
open PySem PySem.Spec PyProof.Rows L2

section
variable {X : Cx} {T : Tab} {W : WX} {e a b c : Expr} {es : List Expr} {f fa fb fc : En → O R} {fs : En → O (List R)} {pos p p2 : Pos} {P : List Nat}
/-! ### nothing is said -/
theorem ds_bad {st : Stmt} : DS X T W P st (fun _ => .bad) := ⟨fun pins s σ H D I q => by obtain ⟨F, ε, k, p⟩ := q; exact p.elim⟩
theorem dss_bad {st : List Stmt} : DSs X T W P st (fun _ => .bad) := ⟨fun pins s σ H D I q => by obtain ⟨F, ε, k, p⟩ := q; exact p.elim⟩
theorem de_bad : DE X T W e (fun _ => .bad) := ⟨fun pins s σ H D I q => by obtain ⟨F, ε, k, p⟩ := q; exact p.elim⟩
theorem dt_bad : DT X T W e (fun _ => .bad) := ⟨fun pins s σ H D I q => by obtain ⟨F, ε, k, p⟩ := q; exact p.elim⟩

/-! ### ranges as arguments -/
def tDR (K : PySem.W.Frag) (T : Tab) (W : WX) (f : En → O (Int × Int)) : L2.St → Hp → (Int → Int → Hp → Prop) → Prop := fun σ H Q => ∃ F ε, Ok K T F H σ ε ∧ Po K T W F H σ ε (f ε) (fun ab _ _ H' => Q ab.1 ab.2 H')
abbrev DR (X : Cx) (T : Tab) (W : WX) (e : Expr) (f : En → O (Int × Int)) : Prop := PRg X e (tDR X.K T W f)
theorem PRg.imp {t t' : L2.St → Hp → (Int → Int → Hp → Prop) → Prop} (h : PRg X e t) (w : ∀ σ H Q, t' σ H Q → t σ H Q) : PRg X e t' := fun pins s σ H Q I q => h pins s σ H Q I (w σ H Q q)
def vR1 (ε : En) (r : R) : O (Int × Int) :=
  match res ε r with
  | some (.int i) => .ok (0, i) ε
  | _ => .bad
def vR2 (ε : En) (r1 r2 : R) : O (Int × Int) :=
  match res ε r1, res ε r2 with
  | some (.int i), some (.int j) => .ok (i, j) ε
  | _, _ => .bad
def dR1 (f : En → O R) : En → O (Int × Int) := fun ε => (f ε).bind fun r ε1 => vR1 ε1 r
def dR2 (fa fb : En → O R) : En → O (Int × Int) := fun ε => (fa ε).bind fun r1 ε1 => (fb ε1).bind fun r2 ε2 => vR2 ε2 r1 r2
theorem dr_1 (hg : Gl X "range") (hm : X.mg "range" = none) (ha : DE X T W a fa) (na : starEach [a] X.env = (false, eval a X.env) :: starEach [] X.env := by rfl) : DR X T W (.Call (.Name "range" p) [a] [] pos) (dR1 fa) := by
  refine PRg.imp (prg_1 hg hm ha na) fun σ H Q q => ?_
  obtain ⟨F, ε, k, p⟩ := q
  refine tD_use (g := fun r ε1 => vR1 ε1 r) k Ext.refl p fun v F1 H1 r ε1 k1 x1 _ q1 n1 p1 => ?_
  unfold vR1 at p1
  split at p1
  · rename_i i e1
    exact ⟨i, rp_int.mp (res_rp k1 q1 e1), p1 F1 H1 k1 x1⟩
  · exact p1.elim
theorem dr_2 (hg : Gl X "range") (hm : X.mg "range" = none) (ha : DE X T W a fa) (hb : DE X T W b fb) (na : starEach [a, b] X.env = (false, eval a X.env) :: starEach [b] X.env := by rfl)
    (nb : starEach [b] X.env = (false, eval b X.env) :: starEach [] X.env := by rfl) (hp : (backTo pos (starEach [b] X.env)).any (·.1) = false := by rfl) : DR X T W (.Call (.Name "range" p) [a, b] [] pos) (dR2 fa fb) := by
  refine PRg.imp (prg_2 hg hm ha hb na nb hp) fun σ H Q q => ?_
  obtain ⟨F, ε, k, p⟩ := q
  refine two_use (g := fun r1 r2 ε2 => vR2 ε2 r1 r2) k Ext.refl p fun v1 v2 F2 H2 r1 r2 ε2 k2 _ x2 q1 q2 n1 n2 nd p2 => ?_
  unfold vR2 at p2
  split at p2
  · rename_i i j e1 e2
    exact ⟨i, j, rp_int.mp (res_rp k2 q1 e1), rp_int.mp (res_rp k2 q2 e2), p2 F2 H2 k2 x2⟩
  · exact p2.elim
def rgOk (a b : Int) : Bool := smallI a && smallI b && decide ((b - a).toNat ≤ 1000000)
theorem rgOk_ok {a b : Int} (h : rgOk a b = true) : RgOk a b := by
  rw [rgOk, Bool.and_eq_true, Bool.and_eq_true, decide_eq_true_eq] at h
  have h1 := smallI_ok h.1.1
  have h2 := smallI_ok h.1.2
  exact ⟨h1.1, h1.2, h2.1, h2.2, by omega⟩
theorem rps_range {K : PySem.W.Frag} {F : Hp} {a b : Int} : Rps K T F (rangeD a (b - a).toNat) (rgV a b) := by
  have e : rangeD a (b - a).toNat = ((List.range (b - a).toNat).map fun i => a + (i : Nat)).map D.int := by
    unfold rangeD
    rw [List.map_map]; rfl
  rw [e]
  refine (Rps.ints _ _).mpr ?_
  unfold rgV
  rw [List.map_map]; rfl
def dLRg (fr : En → O (Int × Int)) : En → O R := fun ε => (fr ε).bind fun ab ε1 => if rgOk ab.1 ab.2 then .ok (.new (.lst (rangeD ab.1 (ab.2 - ab.1).toNat))) ε1 else .bad
def dTRg (fr : En → O (Int × Int)) : En → O R := fun ε => (fr ε).bind fun ab ε1 => if rgOk ab.1 ab.2 then .ok (.fz (.tup (rangeD ab.1 (ab.2 - ab.1).toNat))) ε1 else .bad
theorem tDR_use {α : Type} {K : PySem.W.Frag} {fr : En → O (Int × Int)} {g : Int × Int → En → O α} {F0 H0 F H : Hp} {σ : L2.St} {ε0 ε : En} {S : α → En → Hp → Hp → Prop} {Q : Int → Int → Hp → Prop} (k : Ok K T F H σ ε) (x0 : Ext F0 H0 σ ε0 F H σ ε) (p : Po K T W F0 H0 σ ε0 ((fr ε).bind g) S)
    (h : ∀ ab F1 H1 ε1, Ok K T F1 H1 σ ε1 → Ext F0 H0 σ ε0 F1 H1 σ ε1 → Po K T W F0 H0 σ ε0 (g ab ε1) S → Q ab.1 ab.2 H1) : tDR K T W fr σ H Q := by
  refine ⟨F, ε, k, ?_⟩
  cases e : fr ε with
  | bad => rw [e] at p; exact p
  | ok b ε1 =>
    rw [e] at p
    exact fun F1 H1 k1 x1 => h b F1 H1 ε1 k1 (x0.trans x1) p
  | exn c ε1 =>
    rw [e] at p
    exact fun F1 H1 k1 x1 => p F1 H1 k1 (x0.trans x1)
theorem de_listRg {fr : En → O (Int × Int)} (hc : X.calm = true) (hg : Gl X "list") (hm : X.mg "list" = none) (he : DR X T W e fr) (na : starEach [e] X.env = (false, eval e X.env) :: starEach [] X.env := by rfl) : DE X T W (.Call (.Name "list" p) [e] [] pos) (dLRg fr) := by
  refine PE.imp (pe_listRg hc hg hm he na) fun σ H Q q => ?_
  obtain ⟨F, ε, k, p⟩ := q
  refine tDR_use k Ext.refl p fun ab F1 H1 ε1 k1 x1 p1 => ?_
  by_cases h : rgOk ab.1 ab.2 = true
  · rw [if_pos h] at p1
    exact ⟨rgOk_ok h, fun q hq => SE.new k1 x1 p1 hq (rpO_lst.mpr ⟨_, rfl, rps_range⟩)⟩
  · rw [if_neg h] at p1; exact p1.elim
theorem pe_tupRgN {te : L2.St → Hp → (Int → Int → Hp → Prop) → Prop} (hc : X.calm = true) (hg : Gl X "tuple") (hm : X.mg "tuple" = none) (he : PRg X e te) (na : starEach [e] X.env = (false, eval e X.env) :: starEach [] X.env := by rfl) :
    PE X (.Call (.Name "tuple" p) [e] [] pos) (fun σ H Q => te σ H fun a b H1 => RgOk a b ∧ NewT Q H1 (rgV a b)) := by
  refine ⟨fun pins s σ H Q I h => ?_⟩
  refine Call_ (ld_blt I hg hm boot_tuple (PyProof.Rows.callWith_type1 (args_cons (thn (he pins s σ H _ I h) fun x s1 ⟨r, a, b, t, u, v, H1, ex, hr, I1, ok, q⟩ => args_nil ?_) na) na))
  subst ex
  have hl : (rgV a b).length ≤ sizeLine := by rw [rgV_length, sizeLine_eq]; have := ok.2.2.2.2; omega
  obtain ⟨b1, b2, b3, b4, b5⟩ := ok
  refine call_tuple_range (n := (b - a).toNat) (I1.ok.hd hc) hr (small_one b1 b2 b3 b4) (rangeSize_nat a b) b5 fun h' tk acc hk hi => ?_
  have I2 : Inv X pins σ H1 { s1 with heap := h', toks := tk } := I1.kept hk
  exact ⟨.ref h'.objs.size, _, I2.laid (t' := tk) (fun c o e => Heap.get?_push_of_some _ e) (Nat.le_refl _) (tup_new (us := acc.toList) (Heap.get?_push_size _ rfl) (by rw [Array.toArray_toList]) (vals_rg hi) hl), rfl, q _ _ (I2.hok.fresh (Nat.le_refl _)) rfl⟩
theorem de_tupRg {fr : En → O (Int × Int)} (hc : X.calm = true) (hg : Gl X "tuple") (hm : X.mg "tuple" = none) (he : DR X T W e fr) (na : starEach [e] X.env = (false, eval e X.env) :: starEach [] X.env := by rfl) : DE X T W (.Call (.Name "tuple" p) [e] [] pos) (dTRg fr) := by
  refine PE.imp (pe_tupRgN hc hg hm he na) fun σ H Q q => ?_
  obtain ⟨F, ε, k, p⟩ := q
  refine tDR_use k Ext.refl p fun ab F1 H1 ε1 k1 x1 p1 => ?_
  by_cases h : rgOk ab.1 ab.2 = true
  · rw [if_pos h] at p1
    exact ⟨rgOk_ok h, fun q o hq ho => SE.newT k1 x1 p1 hq rps_range ho⟩
  · rw [if_neg h] at p1; exact p1.elim

/-! ### len(set(x)), ints -/
def dd : List Int → List Int
  | [] => []
  | n :: ns => if ns.contains n then dd ns else n :: dd ns
theorem dd_mem : ∀ (ns : List Int) (k : Int), k ∈ dd ns ↔ k ∈ ns
  | [], k => Iff.rfl
  | n :: ns, k => by
    unfold dd
    split
    · rename_i h
      rw [dd_mem ns k, List.mem_cons]
      constructor
      · exact .inr
      · rintro (rfl | h')
        · simpa using h
        · exact h'
    · rw [List.mem_cons, List.mem_cons, dd_mem ns k]
theorem dd_nodup : ∀ ns : List Int, (dd ns).Nodup
  | [] => List.nodup_nil
  | n :: ns => by
    unfold dd
    split
    · exact dd_nodup ns
    · rename_i h
      refine List.nodup_cons.mpr ⟨fun z => h ?_, dd_nodup ns⟩
      simpa using (dd_mem ns n).mp z
theorem dd_len {ns ks : List Int} (h : ks.Nodup) (m : ∀ k, k ∈ ns ↔ k ∈ ks) : ks.length = (dd ns).length :=
  ((List.perm_ext_iff_of_nodup h (dd_nodup ns)).mpr fun k => (m k).symm.trans (dd_mem ns k).symm).length_eq
theorem firstMet_mem (ns : List Int) : ∀ i, i ≤ ns.length → ((PyProof.Rows.firstMet (fun j => ns.getD j 0) i).Nodup ∧ ∀ k, k ∈ PyProof.Rows.firstMet (fun j => ns.getD j 0) i ↔ k ∈ ns.take i)
  | 0, _ => by simp [PyProof.Rows.firstMet_zero]
  | i + 1, h => by
    obtain ⟨h1, h2⟩ := firstMet_mem ns i (by omega)
    have hlt : i < ns.length := by omega
    have eg : ns.getD i 0 = ns[i] := by rw [List.getD_eq_getElem?_getD, List.getElem?_eq_getElem hlt] <;> rfl
    have et : ns.take (i + 1) = ns.take i ++ [ns[i]] := by rw [List.take_add_one, List.getElem?_eq_getElem hlt] <;> rfl
    rw [PyProof.Rows.firstMet_succ, et, eg]
    have es : PyProof.Rows.step_dedup (PyProof.Rows.firstMet (fun j => ns.getD j 0) i) ns[i] = if (PyProof.Rows.firstMet (fun j => ns.getD j 0) i).any (· == ns[i]) then PyProof.Rows.firstMet (fun j => ns.getD j 0) i else PyProof.Rows.firstMet (fun j => ns.getD j 0) i ++ [ns[i]] := rfl
    rw [es]
    by_cases ha : (PyProof.Rows.firstMet (fun j => ns.getD j 0) i).any (· == ns[i]) = true
    · rw [if_pos ha]
      refine ⟨h1, fun k => ?_⟩
      rw [h2 k, List.mem_append, List.mem_singleton]
      constructor
      · exact .inl
      · rintro (z | z)
        · exact z
        · obtain ⟨y, hy, ey⟩ := List.any_eq_true.mp ha
          rw [z, ← beq_iff_eq.mp ey]
          exact (h2 y).mp hy
    · rw [if_neg ha]
      refine ⟨List.nodup_append.mpr ⟨h1, by simp, fun x hx y hy e => ha ?_⟩, fun k => ?_⟩
      · rw [List.mem_singleton] at hy
        exact List.any_eq_true.mpr ⟨x, hx, beq_iff_eq.mpr (e.trans hy)⟩
      · rw [List.mem_append, List.mem_append, h2 k]
def tLenSet (K : PySem.W.Frag) (ta : TE) : TE := fun σ H Q => ta σ H fun x H1 => ∃ (l : Addr) (ns : List Int), x = .ref l ∧ (SqL K H1 l (ns.map V.int) ∨ SqT K H1 l (ns.map V.int)) ∧ ns.length ≤ 4000 ∧ Q (.int ((dd ns).length : Nat)) H1
theorem pe_lenSet {ta : TE} {q : Pos} (hc : X.calm = true) (hg : Gl X "len") (hm : X.mg "len" = none) (hg2 : Gl X "set") (hm2 : X.mg "set" = none) (ha : PE X a ta)
    (na : starEach [a] X.env = (false, eval a X.env) :: starEach [] X.env := by rfl) : PE X (.Call (.Name "len" p) [.Call (.Name "set" p2) [a] [] q] [] pos) (tLenSet X.K ta) := by
  refine ⟨fun pins s σ H Q I h => ?_⟩
  refine Call_ (ld_blt I hg hm boot_len ?_)
  refine PyProof.Rows.callWith_builtin1 (PyProof.Rows.args_cons ?_ rfl) rfl rfl
  refine Call_ (ld_blt I hg2 hm2 boot_set ?_)
  refine PyProof.Rows.callWith_type1 (PyProof.Rows.args_cons (thn (ha.run pins s σ H _ I h) fun v s1 ⟨x, H1, I1, r1, q1⟩ => PyProof.Rows.args_nil ?_) na) na rfl
  obtain ⟨l, ns, rfl, hq, hl, q1⟩ := q1
  cases r1
  rcases hq with hq | hq
  · obtain ⟨its, r, pl, hz⟩ := I1.list hq
    have hlen : its.toArray.size = ns.length := by rw [List.size_toArray, ← r.length, List.length_map]
    refine call_set_list (I1.ok.hd hc) pl.isList (by simpa using r.ints) (by rw [hlen]; unfold scanBound; omega) fun h' tk hS hk => ?_
    refine PyProof.Rows.args_nil ?_
    rw [hlen] at hS
    obtain ⟨m1, m2⟩ := firstMet_mem ns ns.length (Nat.le_refl _)
    rw [List.take_length] at m2
    rw [dd_len (ns := ns) m1 fun k => (m2 k).symm] at hS
    obtain ⟨o, es, ep, t, ho, hex, hd, _, _, _, hf, hn⟩ := hS
    have I2 : Inv X pins σ H1 { s1 with heap := h', toks := tk } := I1.kept fun b o e => hk b o (Heap.lt_size e) e
    have hle : (dd ns).length ≤ ns.length := by
      have := PyProof.Rows.firstMet_length_le (fun j => ns.getD j 0) ns.length
      rw [dd_len (ns := ns) m1 fun k => (m2 k).symm] at this
      exact this
    exact call_len_set ho hex hd hf (by rw [hn] <;> omega) ⟨.int ((dd ns).length : Nat), H1, I2.tok _, ⟨_, by rw [hn]⟩, q1⟩
  · obtain ⟨its, r, pl, hz⟩ := I1.tuple hq
    refine call_set_tupI ns (I1.ok.hd hc) (show s1.heap.IsTuple l its.toArray from pl) (by simpa using r.ints) (by unfold scanBound; omega) fun h' tk c hS hcn hk => ?_
    refine PyProof.Rows.args_nil ?_
    obtain ⟨o, es, ep, t, ho, hex, hd, _, hnd, hmem, _, hf, hn, _⟩ := hS
    have I2 : Inv X pins σ H1 { s1 with heap := h', toks := tk } := I1.kept hk
    have hcard : es.size = (dd ns).length := by
      rw [← dd_len (ns := ns) hnd fun k => by rw [← hmem k, decide_eq_true_eq], List.length_map, Array.length_toList]
    exact call_len_set ho hex hd hf (by rw [hn] <;> omega) ⟨.int ((dd ns).length : Nat), H1, I2.tok _, ⟨_, by rw [hcard]⟩, q1⟩
def vLenSet (ε : En) (r : R) : O R :=
  match res ε r with
  | some (.lst ds) => match toIs ds with
    | some ns => if ns.length ≤ 4000 then .ok (.fz (.int ((dd ns).length : Nat))) ε else .bad
    | none => .bad
  | some (.tup ds) => match toIs ds with
    | some ns => if ns.length ≤ 4000 then .ok (.fz (.int ((dd ns).length : Nat))) ε else .bad
    | none => .bad
  | _ => .bad
def dLenSet (f : En → O R) : En → O R := fun ε => (f ε).bind fun r ε1 => vLenSet ε1 r
theorem de_lenSet {q : Pos} (hc : X.calm = true) (hg : Gl X "len") (hm : X.mg "len" = none) (hg2 : Gl X "set") (hm2 : X.mg "set" = none) (ha : DE X T W a fa)
    (na : starEach [a] X.env = (false, eval a X.env) :: starEach [] X.env := by rfl) : DE X T W (.Call (.Name "len" p) [.Call (.Name "set" p2) [a] [] q] [] pos) (dLenSet fa) := by
  refine PE.imp (pe_lenSet hc hg hm hg2 hm2 ha na) fun σ H Q q => ?_
  obtain ⟨F, ε, k, p⟩ := q
  refine tD_use (g := fun r ε1 => vLenSet ε1 r) k Ext.refl p fun v F1 H1 r ε1 k1 _ x1 q1 n1 p1 => ?_
  unfold vLenSet at p1
  cases e1 : res ε1 r with
  | none => simp only [e1] at p1; exact p1.elim
  | some d =>
    simp only [e1] at p1
    have a1 := res_rpi k1 q1 e1
    cases d with
    | lst ds =>
      obtain ⟨l, vs, rfl, hq, hr⟩ := a1
      cases e2 : toIs ds with
      | none => simp only [e2] at p1; exact p1.elim
      | some ns =>
        simp only [e2] at p1
        by_cases h : ns.length ≤ 4000
        · rw [if_pos h] at p1
          rw [rps_ints e2 hr] at hq
          exact ⟨l, ns, rfl, .inl hq, h, SE.flat (H' := H1) k1 x1 p1 rfl (rp_int.mpr rfl)⟩
        · rw [if_neg h] at p1; exact p1.elim
    | tup ds =>
      obtain ⟨l, vs, rfl, hq, hr⟩ := a1
      cases e2 : toIs ds with
      | none => simp only [e2] at p1; exact p1.elim
      | some ns =>
        simp only [e2] at p1
        by_cases h : ns.length ≤ 4000
        · rw [if_pos h] at p1
          rw [rps_ints e2 hr] at hq
          exact ⟨l, ns, rfl, .inr (hq.mono k1.sub).t, h, SE.flat (H' := H1) k1 x1 p1 rfl (rp_int.mpr rfl)⟩
        · rw [if_neg h] at p1; exact p1.elim
    | _ => exact p1.elim
end
end DL

/-! DL17: from the law's function to its promise -/
namespace DL
open PySem PySem.Spec PyProof.Rows L2
theorem sp_law {K : PySem.W.Frag} {T : Tab} {φ : En → O R} {H : Hp} {a : Addr} {ns : List Int} (hS : SqL K H a (ns.map V.int)) (h : ∃ ε, φ [.fz (.lst (ns.map D.int))] = .ok (.fz (.bl true)) ε) : spD K T 1 φ [.ref a] H (fun v _ => v = .bl true) fun _ _ _ => False := by
  obtain ⟨ε, e⟩ := h
  refine ⟨rfl, H, [.fz (.lst (ns.map D.int))], ⟨Same.refl _, rfl, fun i d ei => ?_, fun i d ei => ?_, fun i j d d' b e1 => ?_⟩, ?_⟩
  · cases i with
    | zero =>
      have ei : some (Sl.fz (.lst (ns.map D.int))) = some (.fz d) := ei
      cases ei
      exact ⟨.ref a, rfl, rp_lst.mpr ⟨a, _, rfl, hS, (Rps.ints _ _).mpr rfl⟩⟩
    | succ i => simp at ei
  · cases i with
    | zero =>
      have ei : some (Sl.fz (.lst (ns.map D.int))) = some (.own d) := ei
      cases ei
    | succ i => simp at ei
  · cases i with
    | zero =>
      have ei : some (Sl.fz (.lst (ns.map D.int))) = some (.own d) := e1
      cases ei
    | succ i => simp at e1
  · rw [e]
    intro F' H' k x v hv hn
    exact (rp_bl (K := K) (T := T) (F := F')).mp hv
end DL

/-! DL18: reckoning with the functions -/
namespace DL
/-- ownIn, slot by slot -/
def ownG (P : List Nat) : Nat → En → Bool
  | _, [] => true
  | i, .own _ :: ε => P.contains i && ownG P (i + 1) ε
  | i, _ :: ε => ownG P (i + 1) ε
theorem ownG_all (P : List Nat) : ∀ (ε : En) (k : Nat), ownG P k ε = (List.range ε.length).all fun i => match ε[i]? with
    | some (.own _) => P.contains (k + i)
    | _ => true
  | [], k => rfl
  | s :: ε, k => by
    have ih := ownG_all P ε (k + 1)
    rw [List.length_cons, List.range_succ_eq_map, List.all_cons, List.all_map]
    have e : (List.range ε.length).all ((fun i => match (s :: ε)[i]? with | some (Sl.own _) => P.contains (k + i) | _ => true) ∘ Nat.succ) = ownG P (k + 1) ε := by
      rw [ih]
      congr 1
      funext i
      show (match (s :: ε)[i + 1]? with | some (.own _) => P.contains (k + (i + 1)) | _ => true) = _
      rw [List.getElem?_cons_succ, show k + (i + 1) = k + 1 + i by omega]
    rw [e]
    cases s <;> simp [ownG]
theorem ownIn_G (P : List Nat) (ε : En) : ownIn P ε = ownG P 0 ε := by
  rw [ownG_all]
  unfold ownIn
  congr 1
  funext i
  rw [Nat.zero_add] <;> (rcases ε[i]? with _ | s <;> first | rfl | (cases s <;> rfl))
theorem ownG_nil (P : List Nat) (i : Nat) : ownG P i [] = true := rfl
theorem ownG_fz (P : List Nat) (i : Nat) (d : D) (ε : En) : ownG P i (.fz d :: ε) = ownG P (i + 1) ε := rfl
theorem ownG_no (P : List Nat) (i : Nat) (ε : En) : ownG P i (.no :: ε) = ownG P (i + 1) ε := rfl
theorem ownG_own (P : List Nat) (i : Nat) (d : D) (ε : En) : ownG P i (.own d :: ε) = (P.contains i && ownG P (i + 1) ε) := rfl

theorem gEq_ii (i j : Int) : gEq (.int i) (.int j) = some (.bl (i == j)) := by simp [gEq, okq, sok, dep, deq]
theorem gNe_ii (i j : Int) : gNe (.int i) (.int j) = some (.bl (!(i == j))) := by simp [gNe, okq, sok, dep, deq]
/-- the walks over several -/
def e3 (t : Int × Int × Int) : D := .tup [.int t.1, .int t.2.1, .int t.2.2]
def e2 (t : Int × Int) : D := .tup [.int t.1, .int t.2]
theorem zip3_e (f s x : List Int) : zip3D (f.map .int) (s.map .int) (x.map .int) = (f.zip (s.zip x)).map e3 := by
  unfold zip3D
  induction f generalizing s x with
  | nil => rfl
  | cons a f ih =>
    cases s with
    | nil => rfl
    | cons b s =>
      cases x with
      | nil => rfl
      | cons c x =>
        simp only [List.map_cons, List.zipWith_cons_cons, List.zip_cons_cons, ih]
        rfl
theorem zip2_e (f s : List Int) : zip2D (f.map .int) (s.map .int) = (f.zip s).map e2 := by
  unfold zip2D
  induction f generalizing s with
  | nil => rfl
  | cons a f ih =>
    cases s with
    | nil => rfl
    | cons b s =>
      simp only [List.map_cons, List.zipWith_cons_cons, List.zip_cons_cons, ih]
      rfl
/-! ### loops -/
/-- one turn -/
def dStep (gg : D → En → Option En) (b : En → O Fl) (d : D) (ε : En) : O Fl :=
  match gg d ε with
  | some ε1 => b ε1
  | none => .bad
theorem dLoop_cons (gg : D → En → Option En) (b : En → O Fl) (d : D) (ds : List D) (ε : En) : dLoop gg b (d :: ds) ε = (dStep gg b d ε).bind (vTurn (dLoop gg b ds)) := by
  show (match gg d ε with | some ε1 => (b ε1).bind (vTurn (dLoop gg b ds)) | none => .bad) = _
  unfold dStep
  cases gg d ε <;> rfl
theorem dLoop_nil (gg : D → En → Option En) (b : En → O Fl) (ε : En) : dLoop gg b [] ε = .ok .nx ε := rfl
/-- the loop runs to its end -/
theorem dLoop_inv {gg : D → En → Option En} {b : En → O Fl} (Inv : Nat → En → Prop) : ∀ (ds : List D) (k : Nat) (ε : En), Inv k ε →
    (∀ i d ε, ds[i]? = some d → Inv (k + i) ε → ∃ ε2, dStep gg b d ε = .ok .nx ε2 ∧ Inv (k + i + 1) ε2) → ∃ ε', dLoop gg b ds ε = .ok .nx ε' ∧ Inv (k + ds.length) ε'
  | [], k, ε, h, _ => ⟨ε, rfl, h⟩
  | d :: ds, k, ε, h, st => by
    obtain ⟨ε2, e2, h2⟩ := st 0 d ε rfl h
    obtain ⟨ε', e', h'⟩ := dLoop_inv Inv ds (k + 1) ε2 h2 fun i d ε hi hk => by
      have := st (i + 1) d ε (by simpa using hi) (by rw [show k + (i + 1) = k + 1 + i by omega]; exact hk)
      rw [show k + (i + 1) + 1 = k + 1 + i + 1 by omega] at this
      exact this
    refine ⟨ε', ?_, by rw [List.length_cons, show k + (ds.length + 1) = k + 1 + ds.length by omega]; exact h'⟩
    rw [dLoop_cons, e2]
    exact e'
/-- from a start -/
theorem dLoop_from {gg : D → En → Option En} {b : En → O Fl} {ds : List D} {ε : En} (Inv : Nat → En → Prop) (h : Inv 0 ε)
    (st : ∀ i d ε, ds[i]? = some d → Inv i ε → ∃ ε2, dStep gg b d ε = .ok .nx ε2 ∧ Inv (i + 1) ε2) : ∃ ε', dLoop gg b ds ε = .ok .nx ε' ∧ Inv ds.length ε' := by
  obtain ⟨ε', e, h'⟩ := dLoop_inv Inv ds 0 ε h fun i d ε hi hk => by rw [Nat.zero_add] at hk ⊢; exact st i d ε hi hk
  rw [Nat.zero_add] at h'
  exact ⟨ε', e, h'⟩
/-- one turn of a comprehension: the item, if it is kept -/
def lcStep (gg : D → En → Option En) (ft : En → O Bool) (fe : En → O R) (vs : List Nat) (d : D) (ε : En) : Option (Option D × En) :=
  match gg d ε with
  | some ε1 => match ft ε1 with
    | .ok b ε2 => if b = true then match fe ε2 with
      | .ok r ε3 => match frz ε3 r with
        | some (y, ε4) => some (some y, wipeE ε4 vs)
        | none => none
      | _ => none
      else some (none, wipeE ε2 vs)
    | _ => none
  | none => none
theorem lcLoop_cons (gg : D → En → Option En) (ft : En → O Bool) (fe : En → O R) (vs : List Nat) (d : D) (ds : List D) (ε : En) (acc : List D) : lcLoop gg ft fe vs (d :: ds) ε acc = (match gg d ε with
    | some ε1 => match ft ε1 with
      | .ok true ε2 => match fe ε2 with
        | .ok r ε3 => match frz ε3 r with
          | some (y, ε4) => lcLoop gg ft fe vs ds (wipeE ε4 vs) (acc ++ [y])
          | none => .bad
        | _ => .bad
      | .ok false ε2 => lcLoop gg ft fe vs ds (wipeE ε2 vs) acc
      | _ => .bad
    | none => .bad) := rfl
theorem lcLoop_step {gg : D → En → Option En} {ft : En → O Bool} {fe : En → O R} {vs : List Nat} {d : D} {ds : List D} {ε ε' : En} {acc : List D} {o : Option D} (h : lcStep gg ft fe vs d ε = some (o, ε')) : lcLoop gg ft fe vs (d :: ds) ε acc = lcLoop gg ft fe vs ds ε' (acc ++ o.toList) := by
  unfold lcStep at h
  rw [lcLoop_cons]
  cases e1 : gg d ε with
  | none => simp only [e1] at h; cases h
  | some ε1 =>
    simp only [e1] at h ⊢
    cases e2 : ft ε1 with
    | bad => simp only [e2] at h; cases h
    | exn c ε2 => simp only [e2] at h; cases h
    | ok b ε2 =>
      simp only [e2] at h ⊢
      cases b with
      | false =>
        rw [if_neg (by decide)] at h
        cases h
        simp
      | true =>
        rw [if_pos rfl] at h
        cases e3 : fe ε2 with
        | bad => simp only [e3] at h; cases h
        | exn c ε3 => simp only [e3] at h; cases h
        | ok r ε3 =>
          simp only [e3] at h ⊢
          cases e4 : frz ε3 r with
          | none => simp only [e4] at h; cases h
          | some z =>
            obtain ⟨y, ε4⟩ := z
            simp only [e4] at h ⊢
            cases h
            simp
theorem lcLoop_map {gg : D → En → Option En} {ft : En → O Bool} {fe : En → O R} {vs : List Nat} {α : Type} (enc : α → D) (h : α → D) : ∀ (xs : List α) (ε : En) (acc : List D),
    (∀ x ∈ xs, lcStep gg ft fe vs (enc x) ε = some (some (h x), ε)) → lcLoop gg ft fe vs (xs.map enc) ε acc = .ok (acc ++ xs.map h) ε
  | [], ε, acc, _ => by simp [lcLoop]
  | x :: xs, ε, acc, st => by
    rw [List.map_cons, lcLoop_step (st x List.mem_cons_self), lcLoop_map enc h xs ε _ fun y hy => st y (List.mem_cons_of_mem _ hy)]
    simp
/-- with a test -/
theorem lcLoop_filter {gg : D → En → Option En} {ft : En → O Bool} {fe : En → O R} {vs : List Nat} {α : Type} (enc : α → D) (p : α → Bool) (h : α → D) : ∀ (xs : List α) (ε : En) (acc : List D),
    (∀ x ∈ xs, lcStep gg ft fe vs (enc x) ε = some (if p x = true then some (h x) else none, ε)) → lcLoop gg ft fe vs (xs.map enc) ε acc = .ok (acc ++ (xs.filter p).map h) ε
  | [], ε, acc, _ => by simp [lcLoop]
  | x :: xs, ε, acc, st => by
    rw [List.map_cons, lcLoop_step (st x List.mem_cons_self), lcLoop_filter enc p h xs ε _ fun y hy => st y (List.mem_cons_of_mem _ hy)]
    cases hp : p x with
    | true => rw [List.filter_cons_of_pos hp]; simp
    | false => rw [List.filter_cons_of_neg (by rw [hp]; simp)]; simp
/-- with states -/
theorem lcLoop_inv {gg : D → En → Option En} {ft : En → O Bool} {fe : En → O R} {vs : List Nat} (Inv : Nat → List D → En → Prop) : ∀ (ds : List D) (k : Nat) (ε : En) (acc : List D), Inv k acc ε →
    (∀ i d ε acc, ds[i]? = some d → Inv (k + i) acc ε → ∃ o ε', lcStep gg ft fe vs d ε = some (o, ε') ∧ Inv (k + i + 1) (acc ++ o.toList) ε') →
    ∃ acc' ε', lcLoop gg ft fe vs ds ε acc = .ok acc' ε' ∧ Inv (k + ds.length) acc' ε'
  | [], k, ε, acc, h, _ => ⟨acc, ε, rfl, h⟩
  | d :: ds, k, ε, acc, h, st => by
    obtain ⟨o, ε2, e2, h2⟩ := st 0 d ε acc rfl h
    obtain ⟨acc', ε', e', h'⟩ := lcLoop_inv Inv ds (k + 1) _ _ h2 fun i d ε acc hi hk => by
      have := st (i + 1) d ε acc (by simpa using hi) (by rw [show k + (i + 1) = k + 1 + i by omega]; exact hk)
      rw [show k + (i + 1) + 1 = k + 1 + i + 1 by omega] at this
      exact this
    refine ⟨acc', ε', ?_, by rw [List.length_cons, show k + (ds.length + 1) = k + 1 + ds.length by omega]; exact h'⟩
    rw [lcLoop_step e2]
    exact e'
theorem lcLoop_from {gg : D → En → Option En} {ft : En → O Bool} {fe : En → O R} {vs : List Nat} {ds : List D} {ε : En} (Inv : Nat → List D → En → Prop) (h : Inv 0 [] ε)
    (st : ∀ i d ε acc, ds[i]? = some d → Inv i acc ε → ∃ o ε', lcStep gg ft fe vs d ε = some (o, ε') ∧ Inv (i + 1) (acc ++ o.toList) ε') : ∃ acc' ε', lcLoop gg ft fe vs ds ε [] = .ok acc' ε' ∧ Inv ds.length acc' ε' := by
  obtain ⟨acc', ε', e, h'⟩ := lcLoop_inv Inv ds 0 ε [] h fun i d ε acc hi hk => by rw [Nat.zero_add] at hk ⊢; exact st i d ε acc hi hk
  rw [Nat.zero_add] at h'
  exact ⟨acc', ε', e, h'⟩
/-- while -/
theorem dWhile_succ (ft : En → O Bool) (b : En → O Fl) (n : Nat) (ε : En) : dWhile ft b (n + 1) ε = (ft ε).bind fun c ε1 => if c = true then (b ε1).bind (vTurn (dWhile ft b n)) else .ok .nx ε1 := rfl
end DL

/-! DL19: defs that call themselves -/
namespace DL
open PySem PySem.Spec PyProof.Rows L2
/-- nothing is promised -/
theorem fn_bad {P : Program} {w : World} {K : PySem.W.Frag} {mg : Str → Option Value} {base : Heap} {CX : CXT} {k : Nat} {f : Addr} {fd : FuncData} {ps : List Str} {T : Tab} {n : Nat} (hn : ps.length = n) : FnOk P w K mg base CX k f fd ps (spD K T n fun _ => .bad) :=
  ⟨fun vs H Q E h => h.1.trans hn.symm, fun A outer s H args us vs Q E _ _ _ _ h => by
    obtain ⟨_, F, ε, _, p⟩ := h
    exact p.elim⟩
end DL

/-! DL20: lists that are only lent: frozen while an expression is told, then owned again -/
namespace DL
open PySem PySem.Spec PyProof.Rows L2
/-- the slots bs frozen -/
def lendS (b : Bool) : Sl → Sl
  | .own d => if b = true then .fz d else .own d
  | s => s
def lendE (bs : List Nat) : Nat → En → En
  | _, [] => []
  | i, s :: ε => lendS (bs.contains i) s :: lendE bs (i + 1) ε
def flatO : D → Bool
  | .lst ds => ds.all flat
  | _ => false
/-- and given back -/
def backS (b : Bool) : Sl → Sl → Sl
  | .fz d, _ => .fz d
  | .no, _ => .no
  | .own d, s => if b = true then .own d else match s with
    | .own d' => if flatO d' = true then .own d' else .no
    | _ => .no
def backE (bs : List Nat) : Nat → En → En → En
  | i, s :: ε, s' :: ε' => backS (bs.contains i) s s' :: backE bs (i + 1) ε ε'
  | _, _, _ => []
def flatR : R → Bool
  | .fz d => flat d
  | .new (.lst ds) => ds.all flat
  | _ => false
def vLend (bs : List Nat) (ε : En) (o : O R) : O R :=
  match o with
  | .ok r ε' => if flatR r = true then .ok r (backE bs 0 ε ε') else .bad
  | _ => .bad
def dLend (bs : List Nat) (f : En → O R) : En → O R := fun ε => vLend bs ε (f (lendE bs 0 ε))
theorem lendE_length (bs : List Nat) : ∀ (i : Nat) (ε : En), (lendE bs i ε).length = ε.length
  | _, [] => rfl
  | i, s :: ε => by unfold lendE; rw [List.length_cons, lendE_length bs (i + 1) ε, List.length_cons]
/-- a slot of the lent ones -/
theorem lendE_get (bs : List Nat) : ∀ (i j : Nat) (ε : En), (lendE bs i ε)[j]? = (ε[j]?).map fun s => lendS (bs.contains (i + j)) s
  | _, _, [] => rfl
  | i, 0, s :: ε => rfl
  | i, j + 1, s :: ε => by unfold lendE; rw [List.getElem?_cons_succ, List.getElem?_cons_succ, lendE_get bs (i + 1) j ε, show i + 1 + j = i + (j + 1) by omega]
theorem backS_get {b : Bool} {s s' u : Sl} (e : backS b s s' = u) : (∃ d, u = .fz d ∧ s = .fz d) ∨ u = .no ∨ (∃ d, u = .own d ∧ s = .own d ∧ b = true) ∨ ∃ d d', u = .own d' ∧ s = .own d ∧ s' = .own d' ∧ b = false ∧ flatO d' = true := by
  cases s with
  | no => exact .inr (.inl e.symm)
  | fz d => exact .inl ⟨d, e.symm, rfl⟩
  | own d =>
    cases b with
    | true => exact .inr (.inr (.inl ⟨d, e.symm, rfl, rfl⟩))
    | false =>
      cases s' with
      | no => exact .inr (.inl e.symm)
      | fz d' => exact .inr (.inl e.symm)
      | own d' =>
        have e' : (if flatO d' = true then Sl.own d' else .no) = u := e
        by_cases h : flatO d' = true
        · rw [if_pos h] at e'
          exact .inr (.inr (.inr ⟨d, d', e'.symm, rfl, rfl, rfl, h⟩))
        · rw [if_neg h] at e'
          exact .inr (.inl e'.symm)
theorem backE_get (bs : List Nat) : ∀ (i j : Nat) (ε ε' : En) (s : Sl), (backE bs i ε ε')[j]? = some s →
    (∃ d, s = .fz d ∧ ε[j]? = some (.fz d)) ∨ s = .no ∨ (∃ d, s = .own d ∧ ε[j]? = some (.own d) ∧ bs.contains (i + j) = true) ∨ ∃ d d', s = .own d' ∧ ε[j]? = some (.own d) ∧ ε'[j]? = some (.own d') ∧ bs.contains (i + j) = false ∧ flatO d' = true
  | i, j, [], ε', s, h => by simp [backE] at h
  | i, j, _ :: _, [], s, h => by simp [backE] at h
  | i, 0, u :: ε, u' :: ε', s, h => by
    unfold backE at h
    have h : backS (bs.contains i) u u' = s := by simpa using h
    rcases backS_get h with ⟨d, z, z1⟩ | z | ⟨d, z, z1, z2⟩ | ⟨d, d', z, z1, z2, z3, z4⟩
    · exact .inl ⟨d, z, by rw [z1]; rfl⟩
    · exact .inr (.inl z)
    · exact .inr (.inr (.inl ⟨d, z, by rw [z1]; rfl, z2⟩))
    · exact .inr (.inr (.inr ⟨d, d', z, by rw [z1]; rfl, by rw [z2]; rfl, z3, z4⟩))
  | i, j + 1, u :: ε, u' :: ε', s, h => by
    unfold backE at h
    have := backE_get bs (i + 1) j ε ε' s (by simpa using h)
    rw [show i + 1 + j = i + (j + 1) by omega] at this
    simpa using this
theorem backE_length (bs : List Nat) : ∀ (i : Nat) (ε ε' : En), ε'.length = ε.length → (backE bs i ε ε').length = ε.length
  | i, [], ε', h => by
    have : ε' = [] := List.eq_nil_of_length_eq_zero h
    subst this; rfl
  | i, s :: ε, [], h => by simp at h
  | i, s :: ε, s' :: ε', h => by
    unfold backE
    rw [List.length_cons, backE_length bs (i + 1) ε ε' (by simpa using h), List.length_cons]
/-- a slot that owns nothing -/
def fzo : Option D → Sl
  | none => .no
  | some d => .fz d
theorem lend_fzo (b : Bool) (o : Option D) : lendS b (fzo o) = fzo o := by cases o <;> rfl
theorem back_fzo (b : Bool) (o : Option D) (s : Sl) : backS b (fzo o) s = fzo o := by cases o <;> rfl
theorem lend_fz (b : Bool) (d : D) : lendS b (.fz d) = .fz d := rfl
theorem lend_no (b : Bool) : lendS b .no = .no := rfl
theorem lend_own1 (d : D) : lendS true (.own d) = .fz d := rfl
theorem lend_own0 (d : D) : lendS false (.own d) = .own d := rfl
theorem back_fz (b : Bool) (d : D) (s : Sl) : backS b (.fz d) s = .fz d := rfl
theorem back_no (b : Bool) (s : Sl) : backS b .no s = .no := rfl
theorem back_own1 (d : D) (s : Sl) : backS true (.own d) s = .own d := rfl
theorem back_own0 (d d' : D) (h : flatO d' = true) : backS false (.own d) (.own d') = .own d' := if_pos h
theorem flat_ints (l : List Int) : (l.map D.int).all flat = true := by
  rw [List.all_map]
  exact List.all_eq_true.mpr fun _ _ => rfl
theorem flatO_ints (l : List Int) : flatO (.lst (l.map .int)) = true := flat_ints l
open Classical in
/-- the frozen heap with the lent objects -/
noncomputable def lendF (bs : List Nat) (F H : Hp) (σ : L2.St) (ε : En) : Hp := fun a => if ∃ (i : Nat) (d : D), bs.contains i = true ∧ ε[i]? = some (.own d) ∧ σ[i]? = some (some (.ref a)) then H a else F a
section
variable {K : PySem.W.Frag} {T : Tab} {bs : List Nat} {F H : Hp} {σ : L2.St} {ε : En}
def LentAt (bs : List Nat) (σ : L2.St) (ε : En) (a : Addr) : Prop := ∃ (i : Nat) (d : D), bs.contains i = true ∧ ε[i]? = some (.own d) ∧ σ[i]? = some (some (.ref a))
theorem lendF_at {a : Addr} (h : LentAt bs σ ε a) : lendF bs F H σ ε a = H a := if_pos h
theorem lendF_not {a : Addr} (h : ¬ LentAt bs σ ε a) : lendF bs F H σ ε a = F a := if_neg h
theorem lent_none (k : Ok K T F H σ ε) {a : Addr} (h : LentAt bs σ ε a) : F a = none := by
  obtain ⟨i, d, _, e, s⟩ := h
  obtain ⟨b, o, s', f, _, _⟩ := k.own i d e
  rw [s] at s'; cases s'; exact f
theorem lendF_same (k : Ok K T F H σ ε) : Same F (lendF bs F H σ ε) := fun a u e => by
  rw [lendF_not fun h => by rw [lent_none k h] at e; cases e]; exact e
theorem lend_ok (k : Ok K T F H σ ε) : Ok K T (lendF bs F H σ ε) H σ (lendE bs 0 ε) where
  sub := fun a u e => by
    by_cases h : LentAt bs σ ε a
    · rw [lendF_at h] at e; exact e
    · rw [lendF_not h] at e; exact k.sub _ _ e
  len := by rw [lendE_length]; exact k.len
  fz := fun i d e => by
    rw [lendE_get, Nat.zero_add] at e
    cases h : ε[i]? with
    | none => rw [h] at e; cases e
    | some s =>
      rw [h] at e
      cases s with
      | no => cases e
      | fz d' =>
        cases e
        obtain ⟨v, e1, r⟩ := k.fz i d h
        exact ⟨v, e1, Rp.mono (lendF_same k) _ _ r⟩
      | own d' =>
        by_cases hb : bs.contains i = true
        · simp only [Option.map_some, hb, lend_own1] at e
          cases e
          obtain ⟨a, o, e1, f, g, r⟩ := k.own i d h
          exact ⟨.ref a, e1, (r.mono (lendF_same k)).rp (Same.refl _) (by rw [lendF_at ⟨i, d, hb, h, e1⟩]; exact g)⟩
        · rw [Bool.not_eq_true] at hb
          simp only [Option.map_some, hb, lend_own0] at e
          cases e
  own := fun i d e => by
    rw [lendE_get, Nat.zero_add] at e
    cases h : ε[i]? with
    | none => rw [h] at e; cases e
    | some s =>
      rw [h] at e
      cases s with
      | no => cases e
      | fz d' => cases e
      | own d' =>
        by_cases hb : bs.contains i = true
        · simp only [Option.map_some, hb, lend_own1] at e
          cases e
        · have hb' := hb
          rw [Bool.not_eq_true] at hb'
          simp only [Option.map_some, hb', lend_own0] at e
          cases e
          obtain ⟨a, o, e1, f, g, r⟩ := k.own i d h
          refine ⟨a, o, e1, ?_, g, r.mono (lendF_same k)⟩
          rw [lendF_not]
          · exact f
          · rintro ⟨j, d2, hj, ej, sj⟩
            have := k.sep j i d2 d a ej h sj e1
            subst this
            exact hb hj
  sep := fun i j d d' a ei ej si sj => by
    rw [lendE_get, Nat.zero_add] at ei ej
    cases hi : ε[i]? with
    | none => rw [hi] at ei; cases ei
    | some s =>
      cases hj : ε[j]? with
      | none => rw [hj] at ej; cases ej
      | some t =>
        rw [hi] at ei
        rw [hj] at ej
        cases s with
        | no => cases ei
        | fz d' => cases ei
        | own d1 => cases t with
          | no => cases ej
          | fz d' => cases ej
          | own d2 => exact k.sep i j d1 d2 a hi hj si sj
theorem lend_own {a : Addr} (h : OwnAt σ (lendE bs 0 ε) a) : OwnAt σ ε a ∧ (∀ (k : Ok K T F H σ ε), ¬ LentAt bs σ ε a) := by
  obtain ⟨i, d, e, s⟩ := h
  rw [lendE_get, Nat.zero_add] at e
  cases hi : ε[i]? with
  | none => rw [hi] at e; cases e
  | some u =>
    rw [hi] at e
    cases u with
    | no => cases e
    | fz d' => cases e
    | own d1 =>
      by_cases hb : bs.contains i = true
      · simp only [Option.map_some, hb, lend_own1] at e
        cases e
      · refine ⟨⟨i, d1, hi, s⟩, fun k ⟨j, d2, hj, ej, sj⟩ => ?_⟩
        have := k.sep j i d2 d1 a ej hi sj s
        subst this
        exact hb hj
open Classical in
/-- taken out of the frozen heap again -/
noncomputable def takeF (bs : List Nat) (F2 : Hp) (σ : L2.St) (ε : En) : Hp := fun a => if LentAt bs σ ε a then none else F2 a
theorem takeF_at {F2 : Hp} {a : Addr} (h : LentAt bs σ ε a) : takeF bs F2 σ ε a = none := if_pos h
theorem takeF_not {F2 : Hp} {a : Addr} (h : ¬ LentAt bs σ ε a) : takeF bs F2 σ ε a = F2 a := if_neg h
theorem flatO_rp {F1 F2 : Hp} {d : D} {o : HO} (h : flatO d = true) (r : RpO K T F1 d o) : RpO K T F2 d o := by
  cases d with
  | lst ds =>
    obtain ⟨vs, rfl, r⟩ := rpO_lst.mp r
    exact rpO_lst.mpr ⟨vs, rfl, flats_rp h r⟩
  | _ => cases h
theorem lend_back {F2 H2 : Hp} {ε2 : En} (k : Ok K T F H σ ε) (k2 : Ok K T F2 H2 σ ε2) (x : Ext (lendF bs F H σ ε) H σ (lendE bs 0 ε) F2 H2 σ ε2) :
    Ok K T (takeF bs F2 σ ε) H2 σ (backE bs 0 ε ε2) ∧ Ext F H σ ε (takeF bs F2 σ ε) H2 σ (backE bs 0 ε ε2) := by
  have sF : Same F (takeF bs F2 σ ε) := fun a u h => by
    rw [takeF_not fun z => by rw [lent_none k z] at h; cases h]
    exact x.fs _ _ (lendF_same k _ _ h)
  have own3 : ∀ (i : Nat) (d : D), (backE bs 0 ε ε2)[i]? = some (.own d) → (ε[i]? = some (.own d) ∧ bs.contains i = true) ∨ (∃ d0, ε[i]? = some (.own d0)) ∧ ε2[i]? = some (.own d) ∧ bs.contains i = false ∧ flatO d = true := fun i d h => by
    rcases backE_get bs 0 i ε ε2 _ h with ⟨d', z, _⟩ | z | ⟨d', z, z1, z2⟩ | ⟨d0, d', z, z1, z2, z3, z4⟩
    · cases z
    · cases z
    · cases z; rw [Nat.zero_add] at z2; exact .inl ⟨z1, z2⟩
    · cases z; rw [Nat.zero_add] at z3; exact .inr ⟨⟨d0, z1⟩, z2, z3, z4⟩
  have own30 : ∀ (i : Nat) (d : D), (backE bs 0 ε ε2)[i]? = some (.own d) → ∃ d0, ε[i]? = some (.own d0) := fun i d h => by
    rcases own3 i d h with ⟨z, _⟩ | ⟨z, _⟩
    · exact ⟨d, z⟩
    · exact z
  refine ⟨⟨fun a u h => ?_, ?_, fun i d h => ?_, fun i d h => ?_, fun i j d d' a ei ej si sj => ?_⟩, ⟨sF, fun a o h n => ?_, x.ht, fun a h => ?_, fun a h => ?_⟩⟩
  · by_cases z : LentAt bs σ ε a
    · rw [takeF_at z] at h; cases h
    · rw [takeF_not z] at h; exact k2.sub _ _ h
  · rw [backE_length bs 0 ε ε2 (by rw [← k2.len, ← k.len])]; exact k.len
  · rcases backE_get bs 0 i ε ε2 _ h with ⟨d', z, z1⟩ | z | ⟨d', z, z1, z2⟩ | ⟨d0, d', z, z1, z2, z3, z4⟩
    · cases z
      obtain ⟨v, e1, r⟩ := k.fz i d z1
      exact ⟨v, e1, Rp.mono sF _ _ r⟩
    · cases z
    · cases z
    · cases z
  · rcases own3 i d h with ⟨z, zb⟩ | ⟨⟨d0, z0⟩, z, zb, zf⟩
    · obtain ⟨a, o, e1, f, g, r⟩ := k.own i d z
      have hl : LentAt bs σ ε a := ⟨i, d, zb, z, e1⟩
      refine ⟨a, o, e1, takeF_at hl, ?_, r.mono sF⟩
      refine k2.sub _ _ (x.fs _ _ ?_)
      rw [lendF_at hl]; exact g
    · obtain ⟨a, o, e1, f, g, r⟩ := k2.own i d z
      refine ⟨a, o, e1, ?_, g, flatO_rp zf r⟩
      by_cases hl : LentAt bs σ ε a
      · exact takeF_at hl
      · rw [takeF_not hl]; exact f
  · obtain ⟨d1, h1⟩ := own30 i d ei
    obtain ⟨d2, h2⟩ := own30 j d' ej
    exact k.sep i j d1 d2 a h1 h2 si sj
  · exact x.hk a o h fun z => n (lend_own (K := K) (T := T) (F := F) (H := H) z).1
  · by_cases z : LentAt bs σ ε a
    · rw [takeF_at z] at h; exact absurd rfl h
    · rw [takeF_not z] at h
      rcases x.fn a h with q | q | q
      · rw [lendF_not z] at q; exact .inl q
      · exact .inr (.inl q)
      · exact .inr (.inr (lend_own (K := K) (T := T) (F := F) (H := H) q).1)
  · obtain ⟨i, d, ei, si⟩ := h
    obtain ⟨d0, h0⟩ := own30 i d ei
    exact .inl ⟨i, d0, h0, si⟩
theorem lend_use {W : WX} {f : En → O R} {Q : VK} (q : tD K T W (dLend bs f) σ H Q) : tD K T W f σ H Q := by
  obtain ⟨F, ε, k, p⟩ := q
  refine ⟨lendF bs F H σ ε, lendE bs 0 ε, lend_ok k, ?_⟩
  unfold dLend vLend at p
  cases e : f (lendE bs 0 ε) with
  | bad => simp only [e] at p; exact p
  | exn c ε2 => simp only [e] at p; exact p.elim
  | ok r ε2 =>
    simp only [e] at p
    split at p
    · rename_i hr
      · intro F2 H2 k2 x2 v hv hn
        obtain ⟨k3, x3⟩ := lend_back k k2 x2
        refine p (takeF bs F2 σ ε) H2 k3 x3 v ?_ hn
        cases r with
        | fz d => exact flat_rp hr hv
        | «at» i => cases hr
        | new d =>
          cases d with
          | lst ds =>
            obtain ⟨a, o, rfl, f1, g1, r1, n1⟩ := hv
            refine ⟨a, o, rfl, ?_, g1, flatO_rp hr r1, fun z => ?_⟩
            · by_cases hl : LentAt bs σ ε a
              · exact takeF_at hl
              · rw [takeF_not hl]; exact f1
            · have ha := hn a (by simp [newA])
              obtain ⟨i, d, ei, si⟩ := z
              rcases backE_get bs 0 i ε ε2 _ ei with ⟨_, z, _⟩ | z | ⟨_, z, z1, z2⟩ | ⟨d0, _, z, z1, _⟩
              · cases z
              · cases z
              · obtain ⟨c, o2, s2, _, g2, _⟩ := k.own i _ z1
                rw [si] at s2; cases s2
                rw [ha] at g2; cases g2
              · obtain ⟨c, o2, s2, _, g2, _⟩ := k.own i _ z1
                rw [si] at s2; cases s2
                rw [ha] at g2; cases g2
          | _ => cases hr
    · exact p.elim
end
theorem de_lend {X : Cx} {T : Tab} {W : WX} {e : Expr} {f : En → O R} (bs : List Nat) (h : DE X T W e f) : DE X T W e (dLend bs f) := PE.imp h fun _ _ _ q => lend_use q
section
variable {X : Cx} {T : Tab} {W : WX} {elt tg iter : Expr} {ifs : List Expr} {gg : D → En → Option En} {ft : En → O Bool} {fe : En → O R} {tgs : List Nat} {P : List Nat} {pos : Pos}
theorem ds_setLcL {own : List (Str × Nat)} {scope : Scope} {fi : En → O (List D)} {i : Nat} {y : Str} {py spos : Pos} (bs : List Nat) (hc : X.calm = true) (hN : X.N.Nodup) (hsw : swapsWith (.ListComp elt [⟨tg, iter, ifs, 0⟩] scope pos) (some (.Name y py)) spos.line X.env = pure true) (hi : DI X T W tg iter fi) (ok : BlkOk X.N X.env.scope scope own)
    (hg : ∀ (s : Shared) (H : Hp) (C : Addr) (cl : List (Str × Addr)) (fp : List Addr), DG (X.blk s H scope (compEnvC scope cl C X.env) fp) T tgs tg gg) (ht : ∀ (s : Shared) (H : Hp) (C : Addr) (cl : List (Str × Addr)) (fp : List Addr), DTs (X.blk s H scope (compEnvC scope cl C X.env) fp) T W0 ifs ft)
    (he : ∀ (s : Shared) (H : Hp) (C : Addr) (cl : List (Str × Addr)) (fp : List Addr), DE (X.blk s H scope (compEnvC scope cl C X.env) fp) T W0 elt fe) (hy : X.N[i]? = some y := by rfl) (hyl : X.env.scope.names.lookup y = some .local := by rfl) (hP : i ∉ P := by decide) (htg : ∀ j ∈ tgs, j ∈ own.map (·.2) := by decide) (hs : ∀ x, foldedSetIterable iter X.env x = pure x := by intro _; rfl) :
    DS X T W P (.Assign [.Name y py] (.ListComp elt [⟨tg, iter, ifs, 0⟩] scope pos) spos) (dSet i (dLend bs (dLC fi gg ft fe (own.map (·.2))))) := by
  refine PS.imp (ps_setLc (te := tD X.K T W0 fe) (g := tDG X.K T tgs gg) (tt := tDT X.K T W0 ft) hc hN hy hyl hsw hi ok hg ht he hs) fun D σ H q => ?_
  have := set_use (te := tC .non) hP q
  exact lc_use (K := X.K) htg (lend_use this)
end
end DL

/-! DL21: texts of small numbers: str(i), f"{i} up" -/
namespace DL
open PySem PySem.Spec PyProof.Rows L2
/-- a number as a text -/
def txt (i : Int) : Str := toString i
theorem txt_all : ∀ n : Nat, n < 199 → ((txt ((n : Int) - 99)).length ≤ 3 ∧ PyData.strOk (txt ((n : Int) - 99)) = true) := by decide +kernel
theorem txt_len {i : Int} (h : i.natAbs ≤ 99) : (txt i).length ≤ 3 := by
  have := (txt_all (i + 99).toNat (by omega)).1
  rw [show (((i + 99).toNat : Nat) : Int) - 99 = i by omega] at this
  exact this
theorem txt_ok {i : Int} (h : i.natAbs ≤ 99) : PyData.strOk (txt i) = true := by
  have := (txt_all (i + 99).toNat (by omega)).2
  rw [show (((i + 99).toNat : Nat) : Int) - 99 = i by omega] at this
  exact this
theorem log_small {i : Int} (h : i.natAbs ≤ 99) : i.natAbs.log2 < 1920 := Nat.lt_of_le_of_lt (Nat.log2_le_self _) (by omega)
theorem strOk_app (x y : Str) : PyData.strOk (x ++ y) = (PyData.strOk x && PyData.strOk y) := by
  show (x.cps ++ y.cps).all _ = _
  rw [Array.all_append]; rfl
theorem len_app (x y : Str) : (x ++ y).length = x.length + y.length := by
  show (x.cps ++ y.cps).size = _
  rw [Array.size_append]; rfl
section
variable {X : Cx} {T : Tab} {W : WX} {e a b c : Expr} {es : List Expr} {f fa fb fc : En → O R} {fs : En → O (List R)} {pos p : Pos}
/-- str(i) -/
def gStr : List D → Option An
  | [.int i] => if i.natAbs ≤ 99 then some (.fz (.str (txt i))) else none
  | _ => none
theorem fn_str {K : PySem.W.Frag} : FnA K T gStr (fun xs H Q => ∃ i, xs = [.int i] ∧ i.natAbs.log2 < 1920 ∧ Q (.str (toString i)) H) := fun ds a vs F H Q e r s q => by
  unfold gStr at e
  split at e
  · rename_i i
    split at e
    · rename_i h
      cases e
      obtain ⟨v, rfl, r1⟩ := rpis1 r
      exact ⟨i, by rw [rpi_int r1], log_small h, q _ (rp_str.mpr rfl)⟩
    · cases e
  · cases e
theorem de_strF (gl : Gl X "str") (hm : X.mg "str" = none) (ha : DA X T W [e] fs) (he : starEach [e] X.env = (false, eval e X.env) :: starEach [] X.env := by rfl) : DE X T W (.Call (.Name "str" p) [e] [] pos) (dFn gStr fs) := de_fnTy call_str_int fn_str gl hm ha (he := he)

/-! ### f-strings -/
def tDP (K : PySem.W.Frag) (T : Tab) (W : WX) (q : En → O Str) : TE := fun σ H Q => ∃ F ε, Ok K T F H σ ε ∧ Po K T W F H σ ε (q ε) (fun y _ _ H' => Q (.str y) H')
abbrev DP (X : Cx) (T : Tab) (W : WX) (e : Expr) (q : En → O Str) : Prop := PE X e (tDP X.K T W q)
def dLit (y : Str) : En → O Str := fun ε => if y.length ≤ 100 then .ok y ε else .bad
def vFmt (ε : En) (r : R) : O Str :=
  match res ε r with
  | some (.int i) => if i.natAbs ≤ 99 then .ok (txt i) ε else .bad
  | some (.str y) => if y.length ≤ 100 then .ok y ε else .bad
  | _ => .bad
def dFmt (f : En → O R) : En → O Str := fun ε => (f ε).bind fun r ε1 => vFmt ε1 r
theorem dp_lit {y : Str} {j : Nat} : DP X T W (.Constant (.str y) j pos) (dLit y) := by
  refine PE.imp pe_str fun σ H Q q => ?_
  obtain ⟨F, ε, k, p⟩ := q
  unfold dLit at p
  split at p
  · exact p F H k Ext.refl
  · exact p.elim
theorem dp_fmt (he : DE X T W e f) : DP X T W (.FormattedValue e (-1) none pos) (dFmt f) := by
  refine PE.imp (pe_fmt he) fun σ H Q q => ?_
  obtain ⟨F, ε, k, p⟩ := q
  refine tD_use (g := fun r ε1 => vFmt ε1 r) k Ext.refl p fun v F1 H1 r ε1 k1 x1 _ q1 n1 p1 => ?_
  unfold vFmt at p1
  split at p1
  · rename_i i e1
    split at p1
    · rename_i h
      exact .inr ⟨i, rp_int.mp (res_rp k1 q1 e1), log_small h, p1 F1 H1 k1 x1⟩
    · exact p1.elim
  · rename_i y e1
    split at p1
    · rename_i h
      exact .inl ⟨y, rp_str.mp (res_rp k1 q1 e1), line1M (by omega), p1 F1 H1 k1 x1⟩
    · exact p1.elim
  · exact p1.elim
/-- each part is short -/
def Short (q : En → O Str) : Prop := ∀ ε y ε', q ε = .ok y ε' → y.length ≤ 100
theorem short_lit {y : Str} : Short (dLit y) := fun ε z ε' e => by
  unfold dLit at e
  split at e
  · rename_i h; cases e; exact h
  · cases e
theorem short_fmt : Short (dFmt f) := fun ε y ε' e => by
  unfold dFmt at e
  cases e1 : f ε with
  | bad => rw [e1] at e; cases e
  | exn c ε1 => rw [e1] at e; cases e
  | ok r ε1 =>
    rw [e1] at e
    have e : vFmt ε1 r = .ok y ε' := e
    unfold vFmt at e
    split at e
    · split at e
      · rename_i h; cases e; have := txt_len h; omega
      · cases e
    · split at e
      · rename_i h; cases e; exact h
      · cases e
    · cases e
def dJs : List (En → O Str) → Str → En → O Str
  | [], acc, ε => .ok acc ε
  | q :: qs, acc, ε => (q ε).bind fun y ε1 => dJs qs (acc ++ y) ε1
def dJoin (qs : List (En → O Str)) : En → O R := fun ε => (dJs qs Str.empty ε).bind fun y ε1 => .ok (.fz (.str y)) ε1
inductive DJ (X : Cx) (T : Tab) (W : WX) : List Expr → List (En → O Str) → Prop where
  | nil : DJ X T W [] []
  | cons {e : Expr} {q : En → O Str} {es : List Expr} {qs : List (En → O Str)} (h : DP X T W e q) (s : Short q) (r : DJ X T W es qs) : DJ X T W (e :: es) (q :: qs)
theorem DJ.pj {qs : List (En → O Str)} (h : DJ X T W es qs) : PJ X es (qs.map (tDP X.K T W)) ∧ ∀ q ∈ qs, Short q := by
  induction h with
  | nil => exact ⟨.nil, fun q hq => by simp at hq⟩
  | cons h s _ ih => exact ⟨.cons h ih.1, fun q hq => by
      rcases List.mem_cons.mp hq with z | z
      · rw [z]; exact s
      · exact ih.2 q z⟩
theorem js_use {K : PySem.W.Frag} {F0 H0 : Hp} {σ : L2.St} {ε0 : En} {Q : VK} : ∀ (qs : List (En → O Str)) (acc : Str) (F H : Hp) (ε : En), (∀ q ∈ qs, Short q) → acc.length + 100 * qs.length ≤ 1000000 → Ok K T F H σ ε → Ext F0 H0 σ ε0 F H σ ε →
    Po K T W F0 H0 σ ε0 ((dJs qs acc ε).bind fun y ε1 => (O.ok (R.fz (DL.D.str y)) ε1 : O R)) (SE K T H0 σ Q) → tJs (qs.map (tDP K T W)) acc σ H fun out H1 => Q (.str out) H1
  | [], acc, F, H, ε, _, _, k, x, p => SE.flat (H' := H) k x p rfl (rp_str.mpr rfl)
  | q :: qs, acc, F, H, ε, hs, hl, k, x, p => by
    refine ⟨F, ε, k, ?_⟩
    unfold dJs at p
    cases e : q ε with
    | bad => rw [e] at p; exact p
    | exn c ε1 =>
      rw [e] at p
      exact fun F1 H1 k1 x1 => p F1 H1 k1 (x.trans x1)
    | ok y ε1 =>
      rw [e] at p
      intro F1 H1 k1 x1
      have hy := hs q List.mem_cons_self ε y ε1 e
      rw [List.length_cons] at hl
      refine ⟨y, rfl, line1M (by rw [len_app]; omega), js_use qs (acc ++ y) F1 H1 ε1 (fun q hq => hs q (List.mem_cons_of_mem _ hq)) (by rw [len_app]; omega) k1 (x.trans x1) p⟩
theorem de_join {v1 v2 : Expr} {rest : List Expr} {qs : List (En → O Str)} (h : DJ X T W (v1 :: v2 :: rest) qs) (hl : qs.length ≤ 1000 := by decide) : DE X T W (.JoinedStr (v1 :: v2 :: rest) pos) (dJoin qs) := by
  refine PE.imp (pe_joined h.pj.1) fun σ H Q q => ?_
  obtain ⟨F, ε, k, p⟩ := q
  exact js_use qs Str.empty F H ε h.pj.2 (by show 0 + _ ≤ _; omega) k Ext.refl p
end
end DL

/-! DL22: x += i, x *= i -/
namespace DL
open PySem PySem.Spec PyProof.Rows L2
section
variable {X : Cx} {T : Tab} {W : WX} {e a b c : Expr} {es : List Expr} {f fa fb fc : En → O R} {fs : En → O (List R)} {pos p : Pos} {P : List Nat}
def gAddI := gII tt2 fun i j => .int (i + j)
def gMulI := gII mulOk fun i j => .int (i * j)
theorem op2_addI {K : PySem.W.Frag} : Op2 K T gAddI (rI0 fun i j => .int (i + j)) := fun d1 d2 d x y H Q e r1 r2 q => by
  obtain ⟨h1, h2⟩ := op2_ii (K := K) (T := T) (C := tt2) (C' := fun _ _ => True) (f := fun i j => D.int (i + j)) (f' := fun i j => V.int (i + j)) (fun _ _ _ => trivial) (fun _ _ _ => rp_int.mpr rfl) (fun _ _ => rfl) d1 d2 d x y H Q e r1 r2 q
  exact ⟨h1, rI0_of h2⟩
theorem op2_mulI {K : PySem.W.Frag} : Op2 K T gMulI (rI CMul fun i j => .int (i * j)) := op2_ii (fun i j h => by
    unfold mulOk at h
    rw [Bool.or_eq_true, decide_eq_true_eq, decide_eq_true_eq] at h
    rcases h with h | h
    · exact .inl (by omega)
    · exact .inr (by omega)) (fun _ _ _ => rp_int.mpr rfl) (fun _ _ => rfl)
theorem ds_augAdd {i : Nat} {x : Str} {pos' : Pos} (hN : X.N.Nodup) (he : DE X T W e f) (hi : X.N[i]? = some x := by rfl) (hx : Loc X.env.scope x := by first | exact Or.inl rfl | exact Or.inr rfl) (hP : i ∉ P := by decide)
    (hf : X.fn x = true ∨ X.env.scope.names.lookup x = some .local := by first | exact .inl rfl | exact .inr rfl) : DS X T W P (.AugAssign (.Name x pos') .Add e pos) (dAug i gAddI f) := ds_aug hN iop_add op2_addI he hi hx hP hf
theorem ds_augMult {i : Nat} {x : Str} {pos' : Pos} (hN : X.N.Nodup) (he : DE X T W e f) (hi : X.N[i]? = some x := by rfl) (hx : Loc X.env.scope x := by first | exact Or.inl rfl | exact Or.inr rfl) (hP : i ∉ P := by decide)
    (hf : X.fn x = true ∨ X.env.scope.names.lookup x = some .local := by first | exact .inl rfl | exact .inr rfl) : DS X T W P (.AugAssign (.Name x pos') .Mult e pos) (dAug i gMulI f) := ds_aug hN iop_mul op2_mulI he hi hx hP hf
end
end DL

/-! DL23: a for statement in a generator def -/
namespace DL
open PySem PySem.Spec PyProof.Rows L2 GenW
section
variable {M : Model} {A : Around} {R : GenEnd} {Y : Protocol} {n : Nat} {s₀ : Shared} {c : Code} {fs : List Frame} {s : Shared} {env : Env}
  {K : Flow → Sem PySem.Fin} {J : Value → Sem PySem.Fin} {gd : Bool → Bool} {lv : List Value → List Value}
theorem segFor {target iter : Expr} {body : List Stmt} {pos : Pos}
    (h : wpAny M (A.over c fs) (eval iter env) (fun x s1 => wpAny M (A.over c fs) (pyIter x) (fun it s2 => ∀ p, Seg M A R Y n s₀ (.forLoop target it body [] env) (M.den (.forLoop target it body [] env))
        (.ret (fun r => ((match r with | .ok f => (.pure f : Sem Flow) | .error e => .raise e).onRaise (cameBack env)).wrap K J gd lv) none (gd false) (lv []) c p [] :: fs) s2)
      (fun x s' => Seg M A R Y n s₀ c (J x) fs s') s1) (fun x s' => Seg M A R Y n s₀ c (J x) fs s') s)
    (hs : ∀ x, foldedSetIterable iter env x = pure x := by intro _; rfl) :
    Seg M A R Y n s₀ c ((exec (.For target iter body [] pos) env).wrap K J gd lv) fs s := by
  rw [exec_For, Sem.bind_eq_wrap', Sem.wrap_wrap]
  refine seg_wrap (wpAny_standAt ?_)
  rw [Sem.bind_eq_wrap', Sem.wrap_wrap]
  refine seg_wrap (wpAny_mono h (fun v s1 h1 => ?_) fun _ _ x => x)
  rw [Sem.bind_eq_wrap', Sem.wrap_wrap]
  refine seg_wrap (wpAny_of_eq (hs v) ?_)
  rw [Sem.bind_eq_wrap', Sem.wrap_wrap]
  refine seg_wrap (wpAny_standAt ?_)
  rw [Sem.bind_eq_wrap', Sem.wrap_wrap]
  refine seg_wrap (wpAny_holding (wpAny_mono h1 (fun it s2 h2 => ?_) fun _ _ x => x))
  exact seg_call h2
end
section
variable {prog : Program} {w : World} {A : Around} {R : GenEnd} {Y : Protocol} {n : Nat} {s₀ : Shared} {fs : List Frame} {s : Shared} {env : Env}
/-- what a turn does with an exception -/
def turnX (env : Env) (x : Value) : Sem PySem.Fin := (do noteFrame x env; theTreesLotGoes x : Sem Unit).wrap (fun _ => .raise x) .raise id id
theorem segForLoop {target : Expr} {it : Value} {body : List Stmt}
    (h : wpAny (model prog w) (A.over (.forLoop target it body [] env) fs) (pyNext it) (fun r s1 => match r with
        | none => Seg (model prog w) A R Y n s₀ (.forLoop target it body [] env) (.pure (.again (.block [] env))) fs s1
        | some v => wpAny (model prog w) (A.over (.forLoop target it body [] env) fs) (letOwnedTupleGo target it v) (fun _ s2 => wpAny (model prog w) (A.over (.forLoop target it body [] env) fs) (assign target env v) (fun _ s3 =>
            Seg (model prog w) A R Y n s₀ (.forLoop target it body [] env) ((execs body env).wrap (fun f => match f with
              | .next | .cont => .pure (.again (.forLoop target it body [] env))
              | .brk => .pure (.done .next)
              | .ret v => .pure (.done (.ret v))) (turnX env) id id) fs s3)
            (fun x s' => Seg (model prog w) A R Y n s₀ (.forLoop target it body [] env) (turnX env x) fs s') s2) (fun x s' => Seg (model prog w) A R Y n s₀ (.forLoop target it body [] env) (turnX env x) fs s') s1)
      (fun x s' => Seg (model prog w) A R Y n s₀ (.forLoop target it body [] env) (turnX env x) fs s') s) :
    Seg (model prog w) A R Y n s₀ (.forLoop target it body [] env) ((model prog w).den (.forLoop target it body [] env)) fs s := by
  have hX : ∀ x : Value, (do noteFrame x env; theTreesLotGoes x : Sem Unit).bind (fun _ => (Sem.raise x : Sem PySem.Fin)) = turnX env x := fun x => Sem.bind_eq_wrap _ _
  show Seg _ A R Y n s₀ _ ((forTurn target it body [] env).onRaise (fun x => do noteFrame x env; theTreesLotGoes x)) fs s
  unfold forTurn
  rw [Sem.onRaise_eq_wrap, Sem.bind_eq_wrap', Sem.wrap_wrap]
  refine seg_wrap (wpAny_standAt ?_)
  rw [Sem.bind_eq_wrap', Sem.wrap_wrap]
  refine seg_wrap (wpAny_onRaise (wpAny_mono h (fun r s1 h1 => ?_) fun x s' hx => wpAny_standAt ?_))
  · cases r with
    | none => exact h1
    | some v =>
      show Seg _ _ _ _ _ _ _ (Sem.wrap _ _ _ _ (Bind.bind _ _)) _ _
      rw [Sem.bind_eq_wrap', Sem.wrap_wrap]
      refine seg_wrap (wpAny_mono h1 (fun _ s2 h2 => ?_) fun x s' hx => by first | exact hx | (rw [← hX] at hx; exact hx))
      rw [Sem.bind_eq_wrap', Sem.wrap_wrap]
      refine seg_wrap (wpAny_mono h2 (fun _ s3 h3 => ?_) fun x s' hx => by first | exact hx | (rw [← hX] at hx; exact hx))
      rw [Sem.bind_eq_wrap', Sem.wrap_wrap]
      rw [Sem.wrap_congr (execs body env) _ _ (K' := fun f => match f with
              | .next | .cont => .pure (.again (.forLoop target it body [] env))
              | .brk => .pure (.done .next)
              | .ret v => .pure (.done (.ret v))) (H' := turnX env) (fun f => by cases f <;> rfl) (fun e => by first | rfl | exact hX e)]
      exact h3
  · first | exact hx | (rw [← hX] at hx; exact hx)
theorem segBlock (h : Seg (model prog w) A R Y n s₀ (.block [] env) (.pure (.done .next)) fs s) : Seg (model prog w) A R Y n s₀ (.block [] env) ((model prog w).den (.block [] env)) fs s := by
  first
    | exact h
    | (show Seg _ _ _ _ _ _ _ _ _ _; exact h)
end
end DL

/-! DL24: the rule for a for statement in a generator def -/
namespace DL
open PySem PySem.Spec PyProof.Rows L2 GenW
def tGFor (wi : TI) (g : TG) (tb : TGn) : TGn := fun D ys σ H => wi σ H fun J H1 => ∃ W : Nat → Nat → List V → L2.St → Hp → Prop, (∃ m, W 0 m ys σ H1) ∧ ∀ i m ys σ H, W i m ys σ H →
  (J.stop i H ∧ D.nx ys σ H) ∨ (J.go i H ∧ ∃ N : List V → L2.St → Hp → Prop, (∀ ys' σ' H', N ys' σ' H' → ∃ m', m' < m ∧ W (i + 1) m' ys' σ' H') ∧ ∀ x H', J.yld i H x H' → g x σ H' fun σ2 H2 => tb { D with nx := N, ct := N, bk := D.nx } ys σ2 H2)
section
variable {X : Cx}
theorem gs_for {tg iter : Expr} {body : List Stmt} {wi : TI} {g : TG} {tb : TGn} {pos : Pos} (hp : PassesOwn (model X.prog X.w) X.A X.env X.xe) (hc : X.calm = true) (hi : PI X tg iter wi) (hg : PG X tg g) (hb : GSs X body tb)
    (hs : ∀ x, foldedSetIterable iter X.env x = pure x := by intro _; rfl) : GS X (.For tg iter body [] pos) (tGFor wi g tb) := by
  refine ⟨fun A S ip R n ys s₀ c fs K J gd lv s σ H D gc hn k hI ht => ?_⟩
  obtain ⟨acc0, cc0, r0, I0⟩ := hI
  refine segFor ?_ hs
  rw [gc.over]
  refine wpAny_mono (hi.run _ s σ H _ I0 ht) (fun v s1 h1 => ?_) fun x s' hx => k.exc n s₀ x s' hx
  refine wpAny_mono h1 (fun itv s2 h2 => ?_) fun x s' hx => k.exc n s₀ x s' hx
  obtain ⟨it, fp, tn, JJ, H2, e, I2, T, st2, f2, W, ⟨m0, w0⟩, turn⟩ := h2
  subst e
  intro p
  have gl := fun (kk : Result → Sem PySem.Fin) => gc_loop (k := kk) (c' := .forLoop tg (.ref it) body [] X.env) (l := lv []) (kp := []) (p := p) gc rfl rfl
  have fpok : ∀ (acc : Array Value) (cc : Nat) (H' : Hp), (∀ b ∈ fp, H' b = none) → ∀ b ∈ fp, FpOk X ((S, lstObj acc cc) :: ip) H' b := fun acc cc H' hn b hb => by
    obtain ⟨z0, z1, z2, z3, z4, z5⟩ := f2 b hb
    refine ⟨hn b hb, z1, z2, z3, z4, fun q hq => ?_⟩
    rcases List.mem_append.mp hq with hq | hq
    · exact z5 q (List.mem_append_left _ hq)
    · rcases List.mem_cons.mp hq with hq | hq
      · rw [hq]
        exact z5 (S, lstObj acc0 cc0) (List.mem_append_right _ List.mem_cons_self)
      · exact z5 q (List.mem_append_right _ (List.mem_cons_of_mem _ hq))
  have fpS : ∀ b ∈ fp, b ≠ S := fun b hb e => by
    obtain ⟨z0, z1, z2, z3, z4, z5⟩ := f2 b hb
    exact z5 (S, lstObj acc0 cc0) (List.mem_append_right _ List.mem_cons_self) e.symm
  have loop : ∀ (m i n : Nat) (ys : List V) (s₀ s : Shared) (σ : L2.St) (H : Hp), n + ys.length = sizeLine → W i m ys σ H → GI X S ip ys σ H s → tn i s.heap → (∀ b ∈ fp, H b = none) →
      Seg (model X.prog X.w) A R (GY X S) n s₀ (.forLoop tg (.ref it) body [] X.env) ((model X.prog X.w).den (.forLoop tg (.ref it) body [] X.env))
        (.ret (fun r => ((match r with | .ok f => (.pure f : Sem Flow) | .error e => .raise e).onRaise (cameBack X.env)).wrap K J gd lv) none (gd false) (lv []) c p [] :: fs) s := by
    intro m
    induction m using Nat.strongRecOn with
    | ind m ih =>
      intro i n ys s₀ s σ H hn w hI st fr
      have ee : ∀ (n : Nat) (s₀ : Shared) (x : Value) (s' : Shared), X.xe x s' → Seg (model X.prog X.w) A R (GY X S) n s₀ (.forLoop tg (.ref it) body [] X.env) (turnX X.env x)
          (.ret (fun r => ((match r with | .ok f => (.pure f : Sem Flow) | .error e => .raise e).onRaise (cameBack X.env)).wrap K J gd lv) none (gd false) (lv []) c p [] :: fs) s' := fun n s₀ x s' hx => by
        unfold turnX
        refine seg_wrap ?_
        rw [(gl _).over]
        refine wpAny_bind (wpAny_mono (hp x s' hx) (fun _ s'' hcb => wpAny_theTreesLotGoes ?_) fun y s'' hcb => ?_)
        · exact seg_leaf (.error x) (seg_cameBack gc k hcb)
        · exact seg_leaf (.error y) (seg_cameBack gc k hcb)
      refine segForLoop ?_
      rw [(gl _).over]
      obtain ⟨acc, cc, r, I⟩ := hI
      rcases turn i m ys σ H w with ⟨stop, qn⟩ | ⟨go, N, hN, step⟩
      · refine wpAny_mono (T.done X rfl rfl rfl hc i _ s σ H X.xe I (fpok acc cc H fr) st stop) (fun r1 s4 h4 => ?_) fun x s' hx => ee n s₀ x s' hx
        obtain ⟨hr, I4⟩ := h4
        subst hr
        refine seg_again rfl (segBlock ?_)
        exact seg_leaf (.ok .next) (k.ok n ys s₀ s4 .next hn ⟨σ, H, ⟨acc, cc, r, I4⟩, qn⟩)
      · refine wpAny_mono (T.item X rfl rfl rfl hc i _ s σ H X.xe I (fpok acc cc H fr) st go) (fun r1 s4 h4 => ?_) fun x s' hx => ee n s₀ x s' hx
        obtain ⟨u, hr, h4⟩ := h4
        subst hr
        refine wpAny_mono h4 (fun _ s5 h5 => ?_) fun x s' hx => ee n s₀ x s' hx
        obtain ⟨x, H5, I5, r5, y5, st5, fr5⟩ := h5
        have I5' := I5.pinned (fpok acc cc H5 fr5) (T.obj _ _ st5)
        refine wpAny_mono (hg.run _ s5 σ H5 x u _ I5' r5 (step x H5 y5)) (fun _ s6 h6 => ?_) fun x s' hx => ee n s₀ x s' hx
        obtain ⟨σ6, H6, I6, q6⟩ := h6
        have gip : ∀ q ∈ ip ++ pinsAt fp s5.heap, q.1 ≠ S := fun q hq => by
          rcases List.mem_append.mp hq with z | z
          · exact gc.ip q z
          · exact fpS q.1 (of_pinsAt z).1
        have gl' := fun (kk : Result → Sem PySem.Fin) => gl kk
        have back : ∀ {ys' : List V} {σ3 : L2.St} {H3 : Hp} {s3 : Shared}, GI X S (ip ++ pinsAt fp s5.heap) ys' σ3 H3 s3 → GI X S ip ys' σ3 H3 s3 ∧ tn (i + 1) s3.heap ∧ ∀ b ∈ fp, H3 b = none := fun {ys' σ3 H3 s3} hI3 => by
          obtain ⟨acc', cc', r', J3⟩ := hI3
          have J3 : Inv X (((S, lstObj acc' cc') :: ip) ++ pinsAt fp s5.heap) σ3 H3 s3 := J3
          refine ⟨⟨acc', cc', r', J3.unpinned⟩, T.keep _ _ _ st5 fun b hb o e => (J3.pin (b, o) (List.mem_append_right _ (List.mem_append_right _ (mem_pinsAt hb e)))).1, fun b hb => ?_⟩
          obtain ⟨o, e, d⟩ := T.obj _ _ st5 b hb
          exact (J3.pin (b, o) (List.mem_append_right _ (List.mem_append_right _ (mem_pinsAt hb e)))).2.1
        refine hb.run A S (ip ++ pinsAt fp s5.heap) R n ys s₀ _ _ _ _ id id s6 σ6 H6 { D with nx := N, ct := N, bk := D.nx } ⟨gc.pn, gip, gc.apart, (gl _).over, (gl _).split, (gl _).guard, rfl⟩ hn ⟨fun n' ys' s₀' s3 f hn' hs => ?_, fun n' s₀' x s3 hx => ee n' s₀' x s3 hx⟩ ⟨acc, cc, r, I6⟩ q6
        cases f with
        | next =>
          obtain ⟨σ3, H3, I3, n3⟩ := hs
          obtain ⟨m', hm, w3⟩ := hN ys' σ3 H3 n3
          obtain ⟨b1, b2, b3⟩ := back I3
          exact seg_again rfl (ih m' hm (i + 1) n' ys' s₀' s3 σ3 H3 hn' w3 b1 b2 b3)
        | cont =>
          obtain ⟨σ3, H3, I3, n3⟩ := hs
          obtain ⟨m', hm, w3⟩ := hN ys' σ3 H3 n3
          obtain ⟨b1, b2, b3⟩ := back I3
          exact seg_again rfl (ih m' hm (i + 1) n' ys' s₀' s3 σ3 H3 hn' w3 b1 b2 b3)
        | brk =>
          obtain ⟨σ3, H3, I3, q3⟩ := hs
          exact seg_leaf (.ok .next) (k.ok n' ys' s₀' s3 .next hn' ⟨σ3, H3, (back I3).1, q3⟩)
        | ret v =>
          obtain ⟨v3, σ3, H3, I3, r3, q3⟩ := hs
          exact seg_leaf (.ok (.ret v)) (k.ok n' ys' s₀' s3 (.ret v) hn' ⟨v3, σ3, H3, (back I3).1, r3, q3⟩)
  exact loop m0 0 n ys s₀ s2 σ H2 hn w0 ⟨acc0, cc0, r0, I2⟩ st2 fun b hb => (f2 b hb).1
end
end DL

/-! DL25: generator defs as functions that give a list -/
namespace DL
open PySem PySem.Spec PyProof.Rows L2 GenW
theorem GS.imp {X : Cx} {st : Stmt} {t t' : TGn} (h : GS X st t) (w : ∀ D ys σ H, t' D ys σ H → t D ys σ H) : GS X st t' := ⟨fun A S ip R n ys s₀ c fs K J gd lv s σ H D g hn k hI q => h.run A S ip R n ys s₀ c fs K J gd lv s σ H D g hn k hI (w D ys σ H q)⟩
theorem GSs.imp {X : Cx} {st : List Stmt} {t t' : TGn} (h : GSs X st t) (w : ∀ D ys σ H, t' D ys σ H → t D ys σ H) : GSs X st t' := ⟨fun A S ip R n ys s₀ c fs K J gd lv s σ H D g hn k hI q => h.run A S ip R n ys s₀ c fs K J gd lv s σ H D g hn k hI (w D ys σ H q)⟩
/-- what is wanted behind a statement -/
def SY (K : PySem.W.Frag) (T : Tab) (H : Hp) (D : GEnds) : Fl × List DL.D → En → Hp → Hp → L2.St → Prop := fun z ε' F' H' σ' => ∀ ys, Rps K T F' z.2 ys → SF K T H (D.at ys) z.1 ε' F' H' σ'
def tDY (K : PySem.W.Frag) (T : Tab) (W : WX) (P : List Nat) (g : List DL.D → En → O (Fl × List DL.D)) : TGn := fun D ys σ H => ∃ F ε ds, Ok K T F H σ ε ∧ Rps K T F ds ys ∧ Ps K T W P F H σ ε (g ds ε) (SY K T H D)
abbrev DY (X : Cx) (T : Tab) (W : WX) (P : List Nat) (st : Stmt) (g : List DL.D → En → O (Fl × List DL.D)) : Prop := GS X st (tDY X.K T W P g)
abbrev DYs (X : Cx) (T : Tab) (W : WX) (P : List Nat) (st : List Stmt) (g : List DL.D → En → O (Fl × List DL.D)) : Prop := GSs X st (tDY X.K T W P g)
section
variable {X : Cx} {T : Tab} {W : WX} {P : List Nat} {st : Stmt} {rest : List Stmt} {pos : Pos}
/-- a statement that hands out nothing -/
def yPlain (g : En → O Fl) : List DL.D → En → O (Fl × List DL.D) := fun ds ε => (g ε).bind fun fl ε1 => .ok (fl, ds) ε1
theorem dy_plain {g : En → O Fl} (h : DS X T W P st g) : DY X T W P st (yPlain g) := by
  refine GS.imp (gs_ps h) fun D ys σ H q => ?_
  obtain ⟨F, ε, ds, k, r, p⟩ := q
  refine ⟨F, ε, k, ?_⟩
  unfold yPlain at p
  cases e : g ε with
  | bad => rw [e] at p; exact p
  | exn c ε1 => rw [e] at p; exact p
  | ok fl ε1 =>
    rw [e] at p
    exact fun F1 H1 σ1 k1 x1 hP => p F1 H1 σ1 k1 x1 hP ys (Rps.mono x1.fs _ _ r)
def yNil : List DL.D → En → O (Fl × List DL.D) := fun ds ε => .ok (.nx, ds) ε
theorem dys_nil : DYs X T W P [] yNil := by
  refine GSs.imp gss_nil fun D ys σ H q => ?_
  obtain ⟨F, ε, ds, k, r, p⟩ := q
  exact p F H σ k Ext.refl (fun _ _ => rfl) ys r
def vYSeq (u : List DL.D → En → O (Fl × List DL.D)) (z : Fl × List DL.D) (ε : En) : O (Fl × List DL.D) :=
  match z.1 with
  | .nx => u z.2 ε
  | fl => .ok (fl, z.2) ε
def ySeq (t u : List DL.D → En → O (Fl × List DL.D)) : List DL.D → En → O (Fl × List DL.D) := fun ds ε => (t ds ε).bind (vYSeq u)
theorem dys_cons {t u : List DL.D → En → O (Fl × List DL.D)} (a : DY X T W P st t) (b : DYs X T W P rest u) : DYs X T W P (st :: rest) (ySeq t u) := by
  refine GSs.imp (gss_cons a b) fun D ys σ H q => ?_
  obtain ⟨F, ε, ds, k, r, p⟩ := q
  refine ⟨F, ε, ds, k, r, ?_⟩
  unfold ySeq at p
  cases e : t ds ε with
  | bad => rw [e] at p; exact p
  | exn c ε1 => rw [e] at p; exact p
  | ok z ε1 =>
    obtain ⟨fl, ds1⟩ := z
    rw [e] at p
    intro F1 H1 σ1 k1 x1 hP ys1 r1
    cases fl with
    | nx =>
      refine ⟨F1, ε1, ds1, k1, r1, ?_⟩
      have p : Ps X.K T W P F H σ ε (u ds1 ε1) (SY X.K T H D) := p
      refine (p.rebase x1 hP).mono fun z ε' F' H' σ' k' x' _ s ys' r' => ?_
      exact (s ys' r').imp (fun a ha => x1.ht a ha) (fun _ z => z) (fun _ z => z) (fun _ z => z) fun _ z => z
    | bk => exact p F1 H1 σ1 k1 x1 hP ys1 r1
    | ct => exact p F1 H1 σ1 k1 x1 hP ys1 r1
    | rt v => exact p F1 H1 σ1 k1 x1 hP ys1 r1
/-- yield e -/
def vYield (ds : List DL.D) (ε : En) (r : R) : O (Fl × List DL.D) :=
  match frz ε r with
  | some (d, ε1) => .ok (.nx, ds ++ [d]) ε1
  | none => .bad
def yYield (f : En → O R) : List DL.D → En → O (Fl × List DL.D) := fun ds ε => if ds.length < 1000000 then (f ε).bind fun r ε1 => vYield ds ε1 r else .bad
theorem dy_yield {e : Expr} {f : En → O R} {yp : Pos} (he : DE X T W e f) (hco : X.env.scope.isCoroutine = false := by rfl) (hi : interactive X.env = false := by rfl) : DY X T W P (.Expr (.Yield (some e) yp) pos) (yYield f) := by
  refine GS.imp (gs_yield he hco hi) fun D ys σ H q => ?_
  obtain ⟨F, ε, ds, k, r, p⟩ := q
  unfold yYield at p
  by_cases hl : ds.length < 1000000
  · rw [if_pos hl] at p
    refine ⟨line1M' (by rw [r.length]; exact hl), F, ε, k, ?_⟩
    cases e1 : f ε with
    | bad => rw [e1] at p; exact p
    | exn c ε1 =>
      rw [e1] at p
      exact fun F1 H1 k1 x1 => p F1 H1 σ k1 x1 fun _ _ => rfl
    | ok r1 ε1 =>
      rw [e1] at p
      have p : Ps X.K T W P F H σ ε (vYield ds ε1 r1) (SY X.K T H D) := p
      intro F1 H1 k1 x1 v hv hn
      unfold vYield at p
      cases e2 : frz ε1 r1 with
      | none => simp only [e2] at p; exact p.elim
      | some z =>
        obtain ⟨d, ε2⟩ := z
        simp only [e2] at p
        obtain ⟨F2, k2, x2, r2, s2, _, _⟩ := frz_ok x1 k1 hv hn e2
        have := p F2 H1 σ k2 x2 (fun _ _ => rfl) (ys ++ [v]) ((Rps.mono x2.fs _ _ r).append (Rps.one r2))
        exact this
  · rw [if_neg hl] at p; exact p.elim
/-- for -/
def yLoop (gg : DL.D → En → Option En) (b : List DL.D → En → O (Fl × List DL.D)) : List DL.D → List DL.D → En → O (Fl × List DL.D)
  | [], ds, ε => .ok (.nx, ds) ε
  | d :: items, ds, ε => match gg d ε with
    | some ε1 => (b ds ε1).bind fun z ε2 => match z.1 with
      | .nx => yLoop gg b items z.2 ε2
      | .ct => yLoop gg b items z.2 ε2
      | .bk => .ok (.nx, z.2) ε2
      | .rt r => .ok (.rt r, z.2) ε2
    | none => .bad
def yFor (fi : En → O (List DL.D)) (gg : DL.D → En → Option En) (b : List DL.D → En → O (Fl × List DL.D)) : List DL.D → En → O (Fl × List DL.D) := fun ds ε => (fi ε).bind fun items ε1 => yLoop gg b items ds ε1
theorem dy_for {tg iter : Expr} {tgs : List Nat} {body : List Stmt} {fi : En → O (List DL.D)} {gg : DL.D → En → Option En} {g : List DL.D → En → O (Fl × List DL.D)} (hp : PassesOwn (model X.prog X.w) X.A X.env X.xe) (hc : X.calm = true) (hi : DI X T W tg iter fi) (hg : DG X T tgs tg gg) (hb : DYs X T W P body g) (hP : ∀ j ∈ P, j ∉ tgs := by decide)
    (hs : ∀ x, foldedSetIterable iter X.env x = pure x := by intro _; rfl) : DY X T W P (.For tg iter body [] pos) (yFor fi gg g) := by
  refine GS.imp (gs_for hp hc hi hg hb hs) fun D ys σ H q => ?_
  obtain ⟨F, ε, ds, k, r, p⟩ := q
  refine ⟨F, ε, k, ?_⟩
  unfold yFor at p
  cases e : fi ε with
  | bad => rw [e] at p; exact p
  | exn c ε1 =>
    rw [e] at p
    exact fun F1 H1 k1 x1 => p F1 H1 σ k1 x1 fun _ _ => rfl
  | ok items ε1 =>
    rw [e] at p
    have p : Ps X.K T W P F H σ ε (yLoop gg g items ds ε1) (SY X.K T H D) := p
    intro F1 H1 k1 x1 J yj
    refine ⟨fun i m ys2 σ2 H2 => m = items.length - i ∧ i ≤ items.length ∧ ∃ F2 ε2 ds2, Ok X.K T F2 H2 σ2 ε2 ∧ Rps X.K T F2 ds2 ys2 ∧ Ext F H σ ε F2 H2 σ2 ε2 ∧ (∀ j ∈ P, σ2[j]? = σ[j]?) ∧ Same F1 F2 ∧ Ps X.K T W P F H σ ε (yLoop gg g (items.drop i) ds2 ε2) (SY X.K T H D), ⟨items.length, by simp, Nat.zero_le _, F1, ε1, ds, k1, Rps.mono x1.fs _ _ r, x1, fun _ _ => rfl, Same.refl _, p⟩, ?_⟩
    rintro i m ys2 σ2 H2 ⟨rfl, hi', F2, ε2, ds2, k2, r2, x2, hP2, s2, p2⟩
    obtain ⟨y1, y2⟩ := yj F2 H2 s2 k2.sub
    by_cases hlt : i < items.length
    · right
      obtain ⟨go, y1⟩ := y1 i hlt
      refine ⟨go, fun ys3 σ3 H3 => ∃ F3 ε3 ds3, Ok X.K T F3 H3 σ3 ε3 ∧ Rps X.K T F3 ds3 ys3 ∧ Ext F H σ ε F3 H3 σ3 ε3 ∧ (∀ j ∈ P, σ3[j]? = σ[j]?) ∧ Same F1 F3 ∧ Ps X.K T W P F H σ ε (yLoop gg g (items.drop (i + 1)) ds3 ε3) (SY X.K T H D), fun ys' σ' H' ⟨F3, ε3, ds3, z⟩ => ⟨items.length - (i + 1), by omega, rfl, hlt, F3, ε3, ds3, z⟩, fun x H3 hy => ?_⟩
      obtain ⟨F3, d, s3, s4, s5, fr, ed, rd⟩ := y1 x H3 hy
      have hdrop : items.drop i = d :: items.drop (i + 1) := by
        rw [List.drop_eq_getElem_cons hlt]
        congr 1
        rw [List.getElem?_eq_getElem hlt] at ed
        exact Option.some.inj ed
      rw [hdrop] at p2
      unfold yLoop at p2
      cases e3 : gg d ε2 with
      | none => simp only [e3] at p2; exact p2.elim
      | some ε3 =>
        simp only [e3] at p2
        have k3 := ok_grow k2 s3 s4 s5 fr
        have x3 := x2.grow s3 s5 fr
        refine ⟨F3, ε2, d, ε3, k3, rd, e3, fun F4 H4 σ4 k4 x4 hj _ => ?_⟩
        have x5 := x3.trans x4
        have hP4 : ∀ j ∈ P, σ4[j]? = σ[j]? := fun j hj' => (hj j (hP j hj')).trans (hP2 j hj')
        have s14 : Same F1 F4 := s2.trans (s3.trans x4.fs)
        refine ⟨F4, ε3, ds2, k4, Rps.mono (s3.trans x4.fs) _ _ r2, ?_⟩
        cases e4 : g ds2 ε3 with
        | bad => rw [e4] at p2; exact p2
        | exn c ε4 =>
          rw [e4] at p2
          exact fun F5 H5 σ5 k5 x6 hP5 => p2 F5 H5 σ5 k5 (x5.trans x6) fun j hj => (hP5 j hj).trans (hP4 j hj)
        | ok z ε4 =>
          obtain ⟨fl, ds4⟩ := z
          rw [e4] at p2
          intro F5 H5 σ5 k5 x6 hP5 ys5 r5
          have hP6 : ∀ j ∈ P, σ5[j]? = σ[j]? := fun j hj => (hP5 j hj).trans (hP4 j hj)
          cases fl with
          | nx => exact ⟨F5, ε4, ds4, k5, r5, x5.trans x6, hP6, s14.trans x6.fs, p2⟩
          | ct => exact ⟨F5, ε4, ds4, k5, r5, x5.trans x6, hP6, s14.trans x6.fs, p2⟩
          | bk => exact p2 F5 H5 σ5 k5 (x5.trans x6) hP6 ys5 r5
          | rt r1 => exact fun v hv hn => p2 F5 H5 σ5 k5 (x5.trans x6) hP6 ys5 r5 v hv fun a ha => x5.ht a (hn a ha)
    · left
      have ei : i = items.length := by omega
      subst ei
      rw [List.drop_length] at p2
      exact ⟨y2, p2 F2 H2 σ2 k2 x2 hP2 ys2 r2⟩
end
/-! ### the def, its call -/
def spGD (K : PySem.W.Frag) (T : Tab) (n : Nat) (φ : En → O (List DL.D)) : SpG := fun vs H Q E => vs.length = n ∧ ∃ F ε, Ok K T F H (vs.map some) ε ∧ Po K T (fun c d _ H' => E c d H') F H (vs.map some) ε (φ ε) (fun ds _ F' H' => ∀ ys, Rps K T F' ds ys → Q ys H')
def noE (ε : En) : En := ε.map fun _ => .no
def vGen (ε : En) (o : O (Fl × List DL.D)) : O (List DL.D) :=
  match o with
  | .ok (.nx, ds) _ => .ok ds (noE ε)
  | _ => .bad
def fzE : En → Bool
  | [] => true
  | .own _ :: _ => false
  | _ :: ε => fzE ε
def gnD (m : Nat) (g : List DL.D → En → O (Fl × List DL.D)) : En → O (List DL.D) := fun ε => if fzE ε = true then vGen ε (g [] (ε ++ List.replicate m .no)) else .bad
theorem fzE_own : ∀ {ε : En} {i : Nat} {d : DL.D}, fzE ε = true → ε[i]? = some (.own d) → False
  | [], i, d, _, e => by simp at e
  | .own _ :: _, _, _, h, _ => by simp [fzE] at h
  | .fz d' :: ε, 0, d, h, e => by simp at e
  | .no :: ε, 0, d, h, e => by simp at e
  | .fz d' :: ε, i + 1, d, h, e => fzE_own (ε := ε) (i := i) (by simpa [fzE] using h) (by simpa using e)
  | .no :: ε, i + 1, d, h, e => fzE_own (ε := ε) (i := i) (by simpa [fzE] using h) (by simpa using e)
section
variable {P : Program} {w : World} {K : PySem.W.Frag} {mg : Str → Option Value} {base : Heap}
theorem gn_ok {x qual : Str} {st : Stmt} {f : Addr} {fd : FuncData} {N ps : List Str} {k : Nat} {T : Tab} {Pr : List Nat} {g : List DL.D → En → O (Fl × List DL.D)} (n m : Nat) (F : Fun K x qual st f fd) (S : GScope N ps (defScope st)) (hn : ps.length = n) (hm : N.length - n = m)
    (hbody : ∀ (cdv : Value) (A : Around) (outer : List Env) (s : Shared) (H : Hp) (E : XK) (pn : List (Addr × Obj)), Room k (A.deeper (envOfC qual (defScope st) s.heap.objs.size f cdv)) →
      DYs (gcxOf P w K mg base N qual (defScope st) f cdv A outer s H E pn) T (fun c d _ H' => E c d H') Pr (defBody st) g) : GFn P w K mg base (k + 1) f fd ps (spGD K T n (gnD m g)) := by
  obtain ⟨oc, od, kV, doc, pm, an, cdv, ct, osl, rfl, lk, hcd⟩ := F.ex
  refine gfn_of lk hcd S (fun vs H Q E h => h.1.trans hn.symm) fun A outer s H vs Q E pn hr hsp => ?_
  refine ⟨_, hbody cdv A outer s H E pn hr, ?_⟩
  obtain ⟨hl, F0, ε, k0, p⟩ := hsp
  have hst : L2.start N vs = vs.map some ++ List.replicate m none := by unfold L2.start; rw [hl, hm]
  rw [hst]
  unfold gnD at p
  by_cases hO : fzE ε = true
  · rw [if_pos hO] at p
    refine ⟨F0, _, [], ok_app (m := m) k0, rps_nil.mpr rfl, ?_⟩
    cases e : g [] (ε ++ List.replicate m .no) with
    | bad => rw [e] at p; exact p.elim
    | exn c ε' => rw [e] at p; exact p.elim
    | ok z ε' =>
      obtain ⟨fl, ds⟩ := z
      rw [e] at p
      cases fl with
      | nx =>
        intro F' H' σ' k' x' hP ys r
        have nown : ∀ a, ¬ OwnAt (vs.map some) ε a := fun a ⟨i, d, ei, _⟩ => fzE_own hO ei
        refine p F' H' ⟨k'.sub, ?_, fun i d ei => ?_, fun i d ei => ?_, fun i j d d' a ei => ?_⟩ ⟨x'.fs, fun a o ha _ => x'.hk a o ha fun z => nown a ((own_app k0.len).mp z), x'.ht, fun a h => ?_, fun a ⟨i, d, ei, _⟩ => ?_⟩ ys r
        · unfold noE; rw [List.length_map, List.length_map, ← k0.len, List.length_map]
        · unfold noE at ei; rw [List.getElem?_map] at ei; cases h : ε[i]? <;> rw [h] at ei <;> cases ei
        · unfold noE at ei; rw [List.getElem?_map] at ei; cases h : ε[i]? <;> rw [h] at ei <;> cases ei
        · unfold noE at ei; rw [List.getElem?_map] at ei; cases h : ε[i]? <;> rw [h] at ei <;> cases ei
        · rcases x'.fn a h with z | z | z
          · exact .inl z
          · exact .inr (.inl z)
          · exact (nown a ((own_app k0.len).mp z)).elim
        · unfold noE at ei; rw [List.getElem?_map] at ei; cases h : ε[i]? <;> rw [h] at ei <;> cases ei
      | bk => exact p.elim
      | ct => exact p.elim
      | rt r => exact p.elim
  · rw [if_neg hO] at p; exact p.elim
end
section
variable {X : Cx} {T : Tab} {W : WX} {k : Nat} {f : Addr} {fd : FuncData} {ps : List Str} {φ : En → O (List DL.D)} {n : Nat} {x : Str} {p pos pos' q : Pos} {e : Expr} {es : List Expr} {fs : En → O (List R)}
def vListG (φ : En → O (List DL.D)) (ε : En) (rs : List R) : O R :=
  match ress ε rs with
  | some ds => match φ (ds.map .fz) with
    | .ok out _ => if out.all flat = true then .ok (.new (.lst out)) ε else .bad
    | _ => .bad
  | none => .bad
def dListG (φ : En → O (List DL.D)) (fs : En → O (List R)) : En → O R := fun ε => (fs ε).bind fun rs ε1 => vListG φ ε1 rs
/-- list(g(..)) -/
theorem de_listG (F : GFn X.prog X.w X.K X.mg X.base k f fd ps (spGD X.K T n φ)) (hr : Room (k + 3) X.A) (hgl : Gl X "list") (hml : X.mg "list" = none) (hg : Gl X x) (hm : X.mg x = some (.ref f)) (hk : PySem.W.keepIn X.K (.ref f) = true) (hb : Binds X.K fd ps []) (tk : Passes (CX X.prog X.w) X fun _ _ _ => False)
    (ha : DA X T W (e :: es) fs) (hn : ∀ ε rs ε', fs ε = .ok rs ε' → rs.length = n) (hdb : (x == ("__debug__" : Str)) = false := by decide) (he : starEach (e :: es) X.env = (false, eval e X.env) :: starEach es X.env := by rfl) (hpl : (backTo pos' (starEach es X.env)).any (·.1) = false := by rfl)
    (he2 : starEach [Expr.Call (.Name x p) (e :: es) [] pos'] X.env = (false, eval (Expr.Call (.Name x p) (e :: es) [] pos') X.env) :: starEach [] X.env := by rfl) :
    DE X T W (.Call (.Name "list" q) [.Call (.Name x p) (e :: es) [] pos'] [] pos) (dListG φ fs) := by
  refine PE.imp (pe_listG (pgen_call (E := fun _ _ _ => False) F (hr.mono (by omega)) hg hm hk hb .nil ha hdb he hpl) tk (fun _ _ _ h => h.elim) hr hgl hml (by decide +kernel) (he := he2)) fun σ H Q h => ?_
  obtain ⟨F0, ε, k0, p⟩ := h
  have p : Po X.K T W F0 H σ ε ((fs ε).bind fun rs ε1 => vListG φ ε1 rs) (SE X.K T H σ Q) := p
  refine ⟨F0, ε, k0, ?_⟩
  cases e1 : fs ε with
  | bad => rw [e1] at p; exact p
  | exn c ε1 => rw [e1] at p; exact p
  | ok rs ε1 =>
    rw [e1] at p
    intro F1 H1 k1 x1 vs hv hn' nd
    have p : Po X.K T W F0 H σ ε (vListG φ ε1 rs) (SE X.K T H σ Q) := p
    unfold vListG at p
    rw [List.append_nil]
    cases e2 : ress ε1 rs with
    | none => simp only [e2] at p; exact p.elim
    | some ds =>
      simp only [e2] at p
      have hr1 := ress_rps k1 hv e2
      refine ⟨by rw [hv.length]; exact hn _ _ _ e1, H1, ds.map .fz, ok_vals hr1, ?_⟩
      cases e3 : φ (ds.map .fz) with
      | bad => simp only [e3] at p; exact p.elim
      | exn c ε' => simp only [e3] at p; exact p.elim
      | ok out ε' =>
        simp only [e3] at p
        by_cases hf : out.all flat = true
        · rw [if_pos hf] at p
          intro F' H' k' x' ys ry q0 hq0
          have s3 : Same H1 H' := fun a o h => x'.hk a o h not_own_vals
          have k2 : Ok X.K T F1 H' σ ε1 := ok_grow k1 (Same.refl _) (k1.sub.trans s3) s3 fun a h => .inl h
          have x2 : Ext F0 H σ ε F1 H' σ ε1 := x1.grow (Same.refl _) s3 fun a h => .inl h
          exact SE.new k2 x2 p hq0 (rpO_lst.mpr ⟨ys, rfl, flats_rp hf ry⟩)
        · rw [if_neg hf] at p; exact p.elim
end
end DL

/-! DL26: small things -/
namespace DL
open PySem PySem.Spec PyProof.Rows L2 GenW
theorem pass_false {X : Cx} : Passes (CX X.prog X.w) X fun _ _ _ => False := fun pins σ H s e s' I h => by
  obtain ⟨a, B, H', cls, d, z1, fl, z2, ub, z3, z4, z5, z6⟩ := h
  exact z6.elim
end DL

/-! DL27: chains of < and <=, is of truth values -/
namespace DL
open PySem PySem.Spec PyProof.Rows L2
section
variable {X : Cx} {T : Tab} {W : WX} {e a b c : Expr} {f fa fb fc : En → O R} {pos pos' p : Pos}
theorem de_ltlt (ha : DE X T W a fa) (hb : DE X T W b fb) (hc : DE X T W c fc) (hm : lastMarks [.Lt, .Lt] [b, c] = false := by with_unfolding_all rfl) : DE X T W (.Compare a [.Lt, .Lt] [b, c] pos) (dCh gLt gLt fa fb fc) := de_ch (OpR.of0 op_lt) (OpR.of0 op_lt) op2_lt op2_lt ha hb hc hm
theorem dt_ltlt (ha : DE X T W a fa) (hb : DE X T W b fb) (hc : DE X T W c fc) (hm : lastMarks [.Lt, .Lt] [b, c] = false := by with_unfolding_all rfl) : DT X T W (.Compare a [.Lt, .Lt] [b, c] pos) (dTst (dCh gLt gLt fa fb fc)) := dt_ch (OpR.of0 op_lt) (OpR.of0 op_lt) op2_lt op2_lt ha hb hc hm
theorem de_lelt (ha : DE X T W a fa) (hb : DE X T W b fb) (hc : DE X T W c fc) (hm : lastMarks [.LtE, .Lt] [b, c] = false := by with_unfolding_all rfl) : DE X T W (.Compare a [.LtE, .Lt] [b, c] pos) (dCh gLe gLt fa fb fc) := de_ch (OpR.of0 op_le) (OpR.of0 op_lt) op2_le op2_lt ha hb hc hm
theorem dt_lelt (ha : DE X T W a fa) (hb : DE X T W b fb) (hc : DE X T W c fc) (hm : lastMarks [.LtE, .Lt] [b, c] = false := by with_unfolding_all rfl) : DT X T W (.Compare a [.LtE, .Lt] [b, c] pos) (dTst (dCh gLe gLt fa fb fc)) := dt_ch (OpR.of0 op_le) (OpR.of0 op_lt) op2_le op2_lt ha hb hc hm
/-- is True, is False -/
def gIsB (neg : Bool) : D → D → Option D
  | .bl a, .bl b => some (.bl (if neg = true then !(a == b) else (a == b)))
  | _, _ => none
theorem op2_isB {K : PySem.W.Frag} : Op2 K T (gIsB false) rIsB := fun d1 d2 d x y H Q e r1 r2 q => by
  unfold gIsB at e
  split at e
  · rename_i a b
    cases e
    refine ⟨rfl, a, b, rp_bl.mp r1, rp_bl.mp r2, ?_⟩
    have : decide (a = b) = (a == b) := by cases a <;> cases b <;> rfl
    rw [this]
    exact q _ (rp_bl.mpr rfl)
  · cases e
theorem op2_notB {K : PySem.W.Frag} : Op2 K T (gIsB true) rNotB := fun d1 d2 d x y H Q e r1 r2 q => by
  unfold gIsB at e
  split at e
  · rename_i a b
    cases e
    refine ⟨rfl, a, b, rp_bl.mp r1, rp_bl.mp r2, ?_⟩
    have : (!decide (a = b)) = (!(a == b)) := by cases a <;> cases b <;> rfl
    rw [this]
    exact q _ (rp_bl.mpr rfl)
  · cases e
theorem de_isB (ha : DE X T W a fa) (hb : DE X T W b fb) (hm : behindInMarks .Is b = false := by first | exact nomark _ | rfl) : DE X T W (.Compare a [.Is] [b] pos) (dOp2 (gIsB false) fa fb) := de_cmp op_isBl op2_isB ha hb hm
theorem de_notB (ha : DE X T W a fa) (hb : DE X T W b fb) (hm : behindInMarks .IsNot b = false := by first | exact nomark _ | rfl) : DE X T W (.Compare a [.IsNot] [b] pos) (dOp2 (gIsB true) fa fb) := de_cmp op_notBl op2_notB ha hb hm
theorem dt_isB (ha : DE X T W a fa) (hb : DE X T W b fb) (hm : behindInMarks .Is b = false := by first | exact nomark _ | rfl) : DT X T W (.Compare a [.Is] [b] pos) (dTst (dOp2 (gIsB false) fa fb)) := dt_cmp op_isBl op2_isB ha hb hm
theorem dt_notB (ha : DE X T W a fa) (hb : DE X T W b fb) (hm : behindInMarks .IsNot b = false := by first | exact nomark _ | rfl) : DT X T W (.Compare a [.IsNot] [b] pos) (dTst (dOp2 (gIsB true) fa fb)) := dt_cmp op_notBl op2_notB ha hb hm
end
end DL

/-! DL28: dicts whose keys are ints, or tuples of ints -/
namespace DL
open PySem PySem.Spec PyProof.Rows L2
section
variable {κ : Type} [DecidableEq κ]
/-- what stands at a key -/
def lkp {α : Type} : List κ → List α → κ → Option α
  | k' :: ks, d :: ds, k => if k' = k then some d else lkp ks ds k
  | _, _, _ => none
def putks (ks : List κ) (k : κ) : List κ := if ks.contains k = true then ks else ks ++ [k]
def put1 {α : Type} : List κ → List α → κ → α → List α
  | k' :: ks, d' :: ds, k, d => (if k' = k then d else d') :: put1 ks ds k d
  | _, _, _, _ => []
def putds {α : Type} (ks : List κ) (ds : List α) (k : κ) (d : α) : List α := if ks.contains k = true then put1 ks ds k d else ds ++ [d]
theorem lkp_val {ks : List κ} {vs : List V} {k : κ} : valV (ks.zip vs) k = lkp ks vs k := by
  induction ks generalizing vs with
  | nil => rfl
  | cons k' ks ih =>
    cases vs with
    | nil => rfl
    | cons v vs =>
      rw [List.zip_cons_cons]
      show _ = if k' = k then some v else lkp ks vs k
      by_cases h : k' = k
      · rw [if_pos h, valV_pos h]
      · rw [if_neg h, valV_neg h, ih]
theorem put1_length {α : Type} : ∀ (ks : List κ) (ds : List α) (k : κ) (d : α), ks.length = ds.length → (put1 ks ds k d).length = ds.length
  | [], [], _, _, _ => rfl
  | k' :: ks, d' :: ds, k, d, h => by unfold put1; rw [List.length_cons, put1_length ks ds k d (by simpa using h), List.length_cons]
  | [], _ :: _, _, _, h => by simp at h
  | _ :: _, [], _, _, h => by simp at h
theorem put1_zip : ∀ (ks : List κ) (vs : List V) (k : κ) (v : V), ks.length = vs.length → (ks.zip vs).map (fun kv => if kv.1 = k then (kv.1, v) else kv) = ks.zip (put1 ks vs k v)
  | [], [], _, _, _ => rfl
  | k' :: ks, v' :: vs, k, v, h => by
    unfold put1
    rw [List.zip_cons_cons, List.map_cons, put1_zip ks vs k v (by simpa using h), List.zip_cons_cons]
    congr 1
    show (if k' = k then (k', v) else (k', v')) = _
    split <;> rfl
  | [], _ :: _, _, _, h => by simp at h
  | _ :: _, [], _, _, h => by simp at h
theorem any_zip (ks : List κ) (vs : List V) (k : κ) (h : ks.length = vs.length) : ((ks.zip vs).any fun kv => decide (kv.1 = k)) = ks.contains k := by
  induction ks generalizing vs with
  | nil => rfl
  | cons k' ks ih =>
    cases vs with
    | nil => simp at h
    | cons v vs =>
      rw [List.zip_cons_cons, List.any_cons, ih vs (by simpa using h), List.contains_cons]
      congr 1
      rw [Bool.eq_iff_iff, decide_eq_true_eq, beq_iff_eq]
      exact eq_comm
theorem put_zip (ks : List κ) (vs : List V) (k : κ) (v : V) (h : ks.length = vs.length) : putK (ks.zip vs) k v = (putks ks k).zip (putds ks vs k v) := by
  unfold putK putks putds
  rw [any_zip ks vs k h]
  by_cases c : ks.contains k = true
  · rw [if_pos c, if_pos c, if_pos c, put1_zip ks vs k v h]
  · rw [if_neg c, if_neg c, if_neg c, List.zip_append h]; rfl
theorem put_len {α : Type} (ks : List κ) (ds : List α) (k : κ) (d : α) (h : ks.length = ds.length) : (putks ks k).length = (putds ks ds k d).length := by
  unfold putks putds
  split
  · rw [put1_length ks ds k d h]; exact h
  · rw [List.length_append, List.length_append, h]; rfl
end
section
variable {K : PySem.W.Frag} {T : Tab} {F : Hp} {κ : Type} [DecidableEq κ]
theorem Rps.lkp : ∀ {ks : List κ} {ds : List D} {vs : List V} {k : κ}, Rps K T F ds vs → (∀ d, DL.lkp ks ds k = some d → ∃ v, DL.lkp ks vs k = some v ∧ Rp K T F d v) ∧ (DL.lkp ks ds k = none → DL.lkp ks vs k = none)
  | [], ds, vs, k, h => by
    have e1 : DL.lkp ([] : List κ) ds k = none := by cases ds <;> rfl
    have e2 : DL.lkp ([] : List κ) vs k = none := by cases vs <;> rfl
    rw [e1, e2]
    exact ⟨fun d e => (by cases e), fun _ => rfl⟩
  | k' :: ks, [], vs, k, h => by
    rw [rps_nil.mp h]
    exact ⟨fun d e => (by cases e), fun _ => rfl⟩
  | k' :: ks, d' :: ds, vs, k, h => by
    obtain ⟨v, r, rfl, h1, h2⟩ := rps_cons.mp h
    obtain ⟨i1, i2⟩ := Rps.lkp (ks := ks) (k := k) h2
    show (∀ d, (if k' = k then some d' else DL.lkp ks ds k) = some d → ∃ v', (if k' = k then some v else DL.lkp ks r k) = some v' ∧ Rp K T F d v') ∧ ((if k' = k then some d' else DL.lkp ks ds k) = none → (if k' = k then some v else DL.lkp ks r k) = none)
    by_cases c : k' = k
    · rw [if_pos c, if_pos c]
      exact ⟨fun d e => by cases e; exact ⟨v, rfl, h1⟩, fun e => by cases e⟩
    · rw [if_neg c, if_neg c]
      exact ⟨i1, i2⟩
theorem Rps.put1 : ∀ {ks : List κ} {ds : List D} {vs : List V} {k : κ} {d : D} {v : V}, Rps K T F ds vs → Rp K T F d v → Rps K T F (DL.put1 ks ds k d) (DL.put1 ks vs k v)
  | [], ds, vs, k, d, v, h, q => by
    have e1 : DL.put1 ([] : List κ) ds k d = [] := by cases ds <;> rfl
    have e2 : DL.put1 ([] : List κ) vs k v = [] := by cases vs <;> rfl
    rw [e1, e2]; exact rps_nil.mpr rfl
  | k' :: ks, [], vs, k, d, v, h, q => by
    rw [rps_nil.mp h]; exact rps_nil.mpr rfl
  | k' :: ks, d' :: ds, vs, k, d, v, h, q => by
    obtain ⟨v', r, rfl, h1, h2⟩ := rps_cons.mp h
    refine rps_cons.mpr ⟨_, _, rfl, ?_, Rps.put1 h2 q⟩
    split
    · exact q
    · exact h1
theorem Rps.putds {ks : List κ} {ds : List D} {vs : List V} {k : κ} {d : D} {v : V} (h : Rps K T F ds vs) (q : Rp K T F d v) : Rps K T F (DL.putds ks ds k d) (DL.putds ks vs k v) := by
  unfold DL.putds
  split
  · exact h.put1 q
  · exact h.append (Rps.one q)
end
/-- a key of ints -/
def kI (i : Int) : Key := Sum.inl i
def kT (is : List Int) : List Key := is.map Sum.inl
def toKey : D → Option Key
  | .int i => some (kI i)
  | .str x => some (Sum.inr x)
  | _ => none
theorem toKey_rp {K : PySem.W.Frag} {T : Tab} {H : Hp} {d : D} {k : Key} {v : V} (e : toKey d = some k) (r : Rp K T H d v) : v = kV k := by
  cases d with
  | int i => cases e; exact rp_int.mp r
  | str x => cases e; exact rp_str.mp r
  | _ => cases e
section
variable {X : Cx} {T : Tab} {W : WX} {e a b c o i value : Expr} {es : List Expr} {f fa fb fc fo fi fv : En → O R} {fs : En → O (List R)} {pos pos' p : Pos} {P : List Nat}
/-! ### {} -/
theorem de_dnewK : DE X T W (.Dict [] [] pos) (fun ε => .ok (.new (.dK [] [])) ε) := by
  refine PE.imp pe_dnewK fun σ H Q q => ?_
  obtain ⟨F, ε, k, q⟩ := q
  exact fun p hp => SE.new k Ext.refl q hp (rpO_dK.mpr ⟨[], rfl, rfl, rps_nil.mpr rfl⟩)
theorem de_dnewT : DE X T W (.Dict [] [] pos) (fun ε => .ok (.new (.dT [] [])) ε) := by
  refine PE.imp pe_dnewT fun σ H Q q => ?_
  obtain ⟨F, ε, k, q⟩ := q
  exact fun p hp => SE.new k Ext.refl q hp (show RpO X.K T F (.dT [] []) (.dT []) from ⟨[], rfl, rfl, rps_nil.mpr rfl⟩)
/-! ### d[k] -/
def vGetK (ε : En) (r1 r2 : R) : O R :=
  match res ε r1, res ε r2 with
  | some (.dK ks ds), some dk => match toKey dk with
    | some k => match lkp ks ds k with
      | some d => .ok (.fz d) ε
      | none => .bad
    | none => .bad
  | _, _ => .bad
def dGetK (fo fi : En → O R) : En → O R := fun ε => (fo ε).bind fun r1 ε1 => (fi ε1).bind fun r2 ε2 => vGetK ε2 r1 r2
theorem de_getK (hu : X.A.units + 64 < cLine) (ho : DE X T W o fo) (hi : DE X T W i fi) (hs : NoSl i := by intro _ _; rfl) : DE X T W (.Subscript o i pos) (dGetK fo fi) := by
  refine PE.imp (pe_dget (by omega) ho hi hs) fun σ H Q q => ?_
  obtain ⟨F, ε, k, p⟩ := q
  refine two_use (g := fun r1 r2 ε2 => vGetK ε2 r1 r2) k Ext.refl p fun v1 v2 F2 H2 r1 r2 ε2 k2 _ x2 q1 q2 n1 n2 nd p2 => ?_
  unfold vGetK at p2
  split at p2
  · rename_i ks ds dk e1 e2
    cases e3 : toKey dk with
    | none => simp only [e3] at p2; exact p2.elim
    | some key =>
      simp only [e3] at p2
      cases e4 : lkp ks ds key with
      | none => simp only [e4] at p2; exact p2.elim
      | some d =>
        simp only [e4] at p2
        obtain ⟨a, vs, rfl, hd, hl, hr⟩ := res_rpi k2 q1 e1
        obtain ⟨v, ev, rv⟩ := hr.lkp.1 d e4
        refine ⟨a, v, rfl, .inl ⟨_, key, hd, toKey_rp e3 (res_rp k2 q2 e2), by rw [lkp_val, ev]⟩, ?_⟩
        exact SE.fin (r := .fz d) k2 x2 p2 rv (by simp [newA])
  · exact p2.elim
/-! ### k in d -/
def gInK (neg : Bool) : D → D → Option D
  | dk, .dK ks ds => match toKey dk with
    | some k => some (.bl (if neg = true then !(lkp ks ds k).isSome else (lkp ks ds k).isSome))
    | none => none
  | _, _ => none
theorem inK_use {K : PySem.W.Frag} {neg : Bool} {σ : L2.St} {H : Hp} {Q : VK} (q : tD K T W (dOp2 (gInK neg) fi fo) σ H Q) : tD K T W fi σ H fun y H1 => tD K T W fo σ H1 fun x H2 => ∃ a o, x = .ref a ∧ DGet H2 a y o ∧ Q (.bl (if neg = true then !o.isSome else o.isSome)) H2 := by
  obtain ⟨F, ε, k, p⟩ := q
  refine two_use (g := fun r1 r2 ε2 => vOp2 (gInK neg) ε2 r1 r2) k Ext.refl p fun v1 v2 F2 H2 r1 r2 ε2 k2 _ x2 q1 q2 n1 n2 nd p2 => ?_
  unfold vOp2 at p2
  cases e1 : res ε2 r1 with
  | none => rw [e1] at p2; exact p2.elim
  | some dk =>
    cases e2 : res ε2 r2 with
    | none => rw [e1, e2] at p2; exact p2.elim
    | some dd =>
      rw [e1, e2] at p2
      cases dd with
      | dK ks ds =>
        have e0 : gInK neg dk (.dK ks ds) = match toKey dk with | some k => some (.bl (if neg = true then !(lkp ks ds k).isSome else (lkp ks ds k).isSome)) | none => none := rfl
        cases e3 : toKey dk with
        | none => rw [e3] at e0; simp only [e0] at p2; exact p2.elim
        | some key =>
          rw [e3] at e0
          simp only [e0] at p2
          obtain ⟨a, vs, rfl, hd, hl, hr⟩ := res_rpi k2 q2 e2
          obtain ⟨i1, i2⟩ := hr.lkp (ks := ks) (k := key)
          refine ⟨a, lkp ks vs key, rfl, .inl ⟨_, key, hd, toKey_rp e3 (res_rp k2 q1 e1), by rw [lkp_val]⟩, ?_⟩
          have es : (lkp ks vs key).isSome = (lkp ks ds key).isSome := by
            cases e4 : lkp ks ds key with
            | none => rw [i2 e4]; rfl
            | some d => obtain ⟨v, ev, _⟩ := i1 d e4; rw [ev]; rfl
          rw [es]
          exact SE.flat (d := .bl _) (H' := H2) k2 x2 p2 rfl (rp_bl.mpr rfl)
      | _ => cases dk <;> exact p2.elim
theorem de_inK (hu : X.A.units + 64 < cLine) (hi : DE X T W i fi) (ho : DE X T W o fo) (hm : behindInMarks .In o = false := by first | exact nobehind _ (by decide) (by decide) | rfl) : DE X T W (.Compare i [.In] [o] pos) (dOp2 (gInK false) fi fo) := PE.imp (pe_cmp (pc_din (by omega) hi ho) (h1 := hm)) fun σ H Q q => inK_use q
theorem de_ninK (hu : X.A.units + 64 < cLine) (hi : DE X T W i fi) (ho : DE X T W o fo) (hm : behindInMarks .NotIn o = false := by first | exact nobehind _ (by decide) (by decide) | rfl) : DE X T W (.Compare i [.NotIn] [o] pos) (dOp2 (gInK true) fi fo) := PE.imp (pe_cmp (pc_dnotin (by omega) hi ho) (h1 := hm)) fun σ H Q q => inK_use q
theorem dt_inK (hu : X.A.units + 64 < cLine) (hi : DE X T W i fi) (ho : DE X T W o fo) (hm : behindInMarks .In o = false := by first | exact nobehind _ (by decide) (by decide) | rfl) : DT X T W (.Compare i [.In] [o] pos) (dTst (dOp2 (gInK false) fi fo)) := PT.imp (pt_cmp (pc_din (by omega) hi ho) (h1 := hm)) fun σ H Q q => inK_use (neg := false) (Q := fun x H1 => ∃ c, x = .bl c ∧ Q c H1) (tst_use q)
theorem dt_ninK (hu : X.A.units + 64 < cLine) (hi : DE X T W i fi) (ho : DE X T W o fo) (hm : behindInMarks .NotIn o = false := by first | exact nobehind _ (by decide) (by decide) | rfl) : DT X T W (.Compare i [.NotIn] [o] pos) (dTst (dOp2 (gInK true) fi fo)) := PT.imp (pt_cmp (pc_dnotin (by omega) hi ho) (h1 := hm)) fun σ H Q q => inK_use (neg := true) (Q := fun x H1 => ∃ c, x = .bl c ∧ Q c H1) (tst_use q)
end
end DL

/-! DL29: stores into dicts, dicts with pairs as keys -/
namespace DL
open PySem PySem.Spec PyProof.Rows L2
section
variable {X : Cx} {T : Tab} {W : WX} {e a b c o i value : Expr} {es : List Expr} {f fa fb fc fo fi fv : En → O R} {fs : En → O (List R)} {pos pos' p px : Pos} {P : List Nat}
def vPutK (j : Nat) (ε : En) (r rk : R) : O Fl :=
  match res ε rk with
  | some dk => match toKey dk with
    | some k => match frz ε r with
      | some (d, ε3) => match ε3[j]? with
        | some (.own (.dK ks ds)) => if ks.length < 1000000 then .ok .nx (ε3.set j (.own (.dK (putks ks k) (putds ks ds k d)))) else .bad
        | _ => .bad
      | none => .bad
    | none => .bad
  | none => .bad
def dPutK (j : Nat) (fi fv : En → O R) : En → O Fl := fun ε =>
  match ε[j]? with
  | some (.own _) => (fv ε).bind fun r ε1 => (fi ε1).bind fun rk ε2 => vPutK j ε2 r rk
  | _ => .bad
theorem ds_putK (j : Nat) {x : Str} (hu : X.A.units + 64 < cLine) (hx : PE X (.Name x px) (tVar j)) (hi : DE X T W i fi) (hv : DE X T W value fv) (hs : swapsWith value (some (.Subscript (.Name x px) i pos')) pos.line X.env = pure false := by rfl) :
    DS X T W P (.Assign [.Subscript (.Name x px) i pos'] value pos) (dPutK j fi fv) := by
  refine PS.imp (ps_dput (by omega) hx hi hv hs) fun D σ H q => ?_
  obtain ⟨F, ε, k, p⟩ := q
  unfold dPutK at p
  split at p
  · rename_i d0 e0
    obtain ⟨a0, o0, s0, _, _, _⟩ := k.own j d0 e0
    refine tD_useS (g := fun r ε1 => (fi ε1).bind fun rk ε2 => vPutK j ε2 r rk) (S := SF X.K T H D) k Ext.refl (fun _ _ => rfl) p fun v F1 H1 r ε1 k1 x1 _ q1 n1 p1 => ?_
    refine ⟨.ref a0, s0, ?_⟩
    refine tD_useS (g := fun rk ε2 => vPutK j ε2 r rk) (S := SF X.K T H D) k1 x1 (fun _ _ => rfl) p1 fun y F2 H2 rk ε2 k2 x2 y2 q2 n2 p2 => ?_
    unfold vPutK at p2
    split at p2
    · rename_i dk e1
      split at p2
      · rename_i key e2
        split at p2
        · rename_i d ε3 e3
          obtain ⟨F3, k3, x3, r3, s3, _⟩ := frz_ok y2 k2 (q1.ext x2) n1 e3
          split at p2
          · rename_i ks ds e4
            split at p2
            · rename_i hlen
              obtain ⟨a1, o1, sa, f1, g1, q3⟩ := k3.own j _ e4
              rw [s0] at sa; cases sa
              obtain ⟨vs, rfl, hl, hr⟩ := rpO_dK.mp q3
              have hl2 : ks.length = vs.length := by rw [hr.length]; exact hl
              refine ⟨a0, upd H2 a0 (.dK (putK (ks.zip vs) key v)), rfl, .inl ⟨_, key, g1, toKey_rp e2 (res_rp k2 q2 e1), line1M' (by rw [List.length_zip]; omega), rfl⟩, ?_⟩
              rw [put_zip ks vs key v hl2]
              exact p2 F3 _ σ (ok_write k3 e4 s0 (rpO_dK.mpr ⟨_, rfl, put_len ks ds key d hl, hr.putds r3⟩)) (x3.write e4 s0) fun _ _ => rfl
            · exact p2.elim
          · exact p2.elim
        · exact p2.elim
      · exact p2.elim
    · exact p2.elim
  · exact p.elim
/-! ### keys that are tuples of ints, written there -/
theorem rps_kT {K : PySem.W.Frag} {F : Hp} {ds : List D} {is : List Int} {vs : List V} (e : toIs ds = some is) (h : Rps K T F ds vs) : vs = (kT is).map kV := by
  rw [rps_ints e h]
  unfold kT
  rw [List.map_map]; rfl
def vGetT (ε : En) (r : R) (rs : List R) : O R :=
  match res ε r, ress ε rs with
  | some (.dT ks ds), some dks => match toIs dks with
    | some is => match lkp ks ds (kT is) with
      | some d => if dks.length ≤ 1000 then .ok (.fz d) ε else .bad
      | none => .bad
    | none => .bad
  | _, _ => .bad
def dGetT (fo : En → O R) (fs : En → O (List R)) : En → O R := fun ε => (fo ε).bind fun r ε1 => (fs ε1).bind fun rs ε2 => vGetT ε2 r rs
theorem de_getT {kk : Nat} {tpos : Pos} (hu : X.A.units + 64 < cLine) (ho : DE X T W o fo) (ha : DA X T W es fs) (hs : NoSl (.Tuple es kk tpos) := by intro _ _; rfl) : DE X T W (.Subscript o (.Tuple es kk tpos) pos) (dGetT fo fs) := by
  refine PE.imp (pe_dget (by omega) ho (pe_tup ha) hs) fun σ H Q q => ?_
  obtain ⟨F, ε, k, p⟩ := q
  refine tD_use (g := fun r ε1 => (fs ε1).bind fun rs ε2 => vGetT ε2 r rs) k Ext.refl p fun v F1 H1 r ε1 k1 x1 _ q1 n1 p1 => ?_
  refine tDA_use (g := fun rs ε2 => vGetT ε2 r rs) k1 x1 p1 fun vs F2 H2 rs ε2 k2 x2 y2 q2 n2 nd p2 => ?_
  unfold vGetT at p2
  split at p2
  · rename_i ks ds dks e1 e2
    split at p2
    · rename_i is e3
      split at p2
      · rename_i d e4
        split at p2
        · rename_i hn
          have hvs := rps_kT e3 (ress_rps k2 q2 e2)
          refine ⟨line1000 (by rw [(ress_rps k2 q2 e2).length]; exact hn), fun q hq => ?_⟩
          obtain ⟨a, us, rfl, hd, hl, hr⟩ := res_rpi k2 (q1.ext x2) e1
          obtain ⟨u, eu, ru⟩ := hr.lkp.1 d e4
          have hd' : Rd (upd H2 q (.tup vs)) a (.dT (ks.zip us)) := rd_mono (same_upd hq) hd
          refine ⟨a, u, rfl, .inr ⟨_, kT is, q, hd', rfl, by rw [upd_same, hvs], by rw [lkp_val, eu]⟩, ?_⟩
          exact SE.fin (r := .fz d) (ok_alloc k2 hq) (y2.alloc hq) p2 ru (by simp [newA])
        · exact p2.elim
      · exact p2.elim
    · exact p2.elim
  · exact p2.elim
/-- (a, b) in d -/
def vInT (neg : Bool) (ε : En) (r : R) (rs : List R) : O R :=
  match res ε r, ress ε rs with
  | some (.dT ks ds), some dks => match toIs dks with
    | some is => .ok (.fz (.bl (if neg = true then !(lkp ks ds (kT is)).isSome else (lkp ks ds (kT is)).isSome))) ε
    | none => .bad
  | _, _ => .bad
def dInT (neg : Bool) (fs : En → O (List R)) (fo : En → O R) : En → O R := fun ε => (fs ε).bind fun rs ε1 => if rs.length ≤ 1000 then (fo ε1).bind fun r ε2 => vInT neg ε2 r rs else .bad
theorem inT_use {K : PySem.W.Frag} {neg : Bool} {σ : L2.St} {H : Hp} {Q : VK} (q : tD K T W (dInT neg fs fo) σ H Q) : tTup (tDA K T W fs) σ H fun y H1 => tD K T W fo σ H1 fun x H2 => ∃ a o, x = .ref a ∧ DGet H2 a y o ∧ Q (.bl (if neg = true then !o.isSome else o.isSome)) H2 := by
  obtain ⟨F, ε, k, p⟩ := q
  have p : Po K T W F H σ ε ((fs ε).bind fun rs ε1 => if rs.length ≤ 1000 then (fo ε1).bind fun r ε2 => vInT neg ε2 r rs else .bad) (SE K T H σ Q) := p
  refine tDA_use (g := fun rs ε1 => if rs.length ≤ 1000 then (fo ε1).bind fun r ε2 => vInT neg ε2 r rs else .bad) k Ext.refl p fun vs F1 H1 rs ε1 k1 x1 _ q1 n1 nd p1 => ?_
  by_cases hl : rs.length ≤ 1000
  · rw [if_pos hl] at p1
    refine ⟨line1000 (by rw [q1.length]; exact hl), fun t ht => ?_⟩
    refine tD_use (g := fun r ε2 => vInT neg ε2 r rs) (ok_alloc k1 ht) (x1.alloc ht) p1 fun v F2 H2 r ε2 k2 x2 y2 q2 n2 p2 => ?_
    have ht2 : H2 t = some (.tup vs) := x2.hk t _ upd_same (not_own_fresh k1 ht)
    have xx : Ext F1 H1 σ ε1 F2 H2 σ ε2 := (Ext.refl.alloc ht).trans x2
    unfold vInT at p2
    split at p2
    · rename_i ks ds dks e1 e2
      split at p2
      · rename_i is e3
        have hvs := rps_kT e3 (ress_rps k2 (q1.ext xx) e2)
        obtain ⟨a, us, rfl, hd, _, hr⟩ := res_rpi k2 q2 e1
        obtain ⟨i1, i2⟩ := hr.lkp (ks := ks) (k := kT is)
        refine ⟨a, lkp ks us (kT is), rfl, .inr ⟨_, kT is, t, hd, rfl, by rw [ht2, hvs], by rw [lkp_val]⟩, ?_⟩
        have es : (lkp ks us (kT is)).isSome = (lkp ks ds (kT is)).isSome := by
          cases e4 : lkp ks ds (kT is) with
          | none => rw [i2 e4]; rfl
          | some d => obtain ⟨v, ev, _⟩ := i1 d e4; rw [ev]; rfl
        rw [es]
        exact SE.flat (d := .bl _) (H' := H2) k2 y2 p2 rfl (rp_bl.mpr rfl)
      · exact p2.elim
    · exact p2.elim
  · rw [if_neg hl] at p1; exact p1.elim
theorem de_inT {kk : Nat} {tpos : Pos} (hu : X.A.units + 64 < cLine) (ha : DA X T W es fs) (ho : DE X T W o fo) (hm : behindInMarks .In o = false := by first | exact nobehind _ (by decide) (by decide) | rfl) : DE X T W (.Compare (.Tuple es kk tpos) [.In] [o] pos) (dInT false fs fo) := PE.imp (pe_cmp (pc_din (by omega) (pe_tup ha) ho) (h1 := hm)) fun σ H Q q => inT_use q
theorem de_ninT {kk : Nat} {tpos : Pos} (hu : X.A.units + 64 < cLine) (ha : DA X T W es fs) (ho : DE X T W o fo) (hm : behindInMarks .NotIn o = false := by first | exact nobehind _ (by decide) (by decide) | rfl) : DE X T W (.Compare (.Tuple es kk tpos) [.NotIn] [o] pos) (dInT true fs fo) := PE.imp (pe_cmp (pc_dnotin (by omega) (pe_tup ha) ho) (h1 := hm)) fun σ H Q q => inT_use q
theorem dt_inT {kk : Nat} {tpos : Pos} (hu : X.A.units + 64 < cLine) (ha : DA X T W es fs) (ho : DE X T W o fo) (hm : behindInMarks .In o = false := by first | exact nobehind _ (by decide) (by decide) | rfl) : DT X T W (.Compare (.Tuple es kk tpos) [.In] [o] pos) (dTst (dInT false fs fo)) := PT.imp (pt_cmp (pc_din (by omega) (pe_tup ha) ho) (h1 := hm)) fun σ H Q q => inT_use (neg := false) (Q := fun x H1 => ∃ c, x = .bl c ∧ Q c H1) (tst_use q)
theorem dt_ninT {kk : Nat} {tpos : Pos} (hu : X.A.units + 64 < cLine) (ha : DA X T W es fs) (ho : DE X T W o fo) (hm : behindInMarks .NotIn o = false := by first | exact nobehind _ (by decide) (by decide) | rfl) : DT X T W (.Compare (.Tuple es kk tpos) [.NotIn] [o] pos) (dTst (dInT true fs fo)) := PT.imp (pt_cmp (pc_dnotin (by omega) (pe_tup ha) ho) (h1 := hm)) fun σ H Q q => inT_use (neg := true) (Q := fun x H1 => ∃ c, x = .bl c ∧ Q c H1) (tst_use q)
/-- d[(a, b)] = v -/
def vPutT (j : Nat) (ε : En) (r : R) (rs : List R) : O Fl :=
  match ress ε rs with
  | some dks => match toIs dks with
    | some is => match frz ε r with
      | some (d, ε3) => match ε3[j]? with
        | some (.own (.dT ks ds)) => if ks.length < 1000000 then .ok .nx (ε3.set j (.own (.dT (putks ks (kT is)) (putds ks ds (kT is) d)))) else .bad
        | _ => .bad
      | none => .bad
    | none => .bad
  | none => .bad
def dPutT (j : Nat) (fs : En → O (List R)) (fv : En → O R) : En → O Fl := fun ε =>
  match ε[j]? with
  | some (.own _) => (fv ε).bind fun r ε1 => (fs ε1).bind fun rs ε2 => if rs.length ≤ 1000 then vPutT j ε2 r rs else .bad
  | _ => .bad
theorem ds_putT (j : Nat) {x : Str} {kk : Nat} {tpos : Pos} (hu : X.A.units + 64 < cLine) (hx : PE X (.Name x px) (tVar j)) (ha : DA X T W es fs) (hv : DE X T W value fv) (hs : swapsWith value (some (.Subscript (.Name x px) (.Tuple es kk tpos) pos')) pos.line X.env = pure false := by rfl) :
    DS X T W P (.Assign [.Subscript (.Name x px) (.Tuple es kk tpos) pos'] value pos) (dPutT j fs fv) := by
  refine PS.imp (ps_dput (by omega) hx (pe_tup ha) hv hs) fun D σ H q => ?_
  obtain ⟨F, ε, k, p⟩ := q
  unfold dPutT at p
  split at p
  · rename_i d0 e0
    obtain ⟨a0, o0, s0, _, _, _⟩ := k.own j d0 e0
    refine tD_useS (g := fun r ε1 => (fs ε1).bind fun rs ε2 => if rs.length ≤ 1000 then vPutT j ε2 r rs else .bad) (S := SF X.K T H D) k Ext.refl (fun _ _ => rfl) p fun v F1 H1 r ε1 k1 x1 _ q1 n1 p1 => ?_
    refine ⟨.ref a0, s0, ?_⟩
    refine tDA_useS (g := fun rs ε2 => if rs.length ≤ 1000 then vPutT j ε2 r rs else .bad) (S := SF X.K T H D) k1 x1 (fun _ _ => rfl) p1 fun vs F2 H2 rs ε2 k2 x2 y2 q2 n2 nd p2 => ?_
    by_cases hl : rs.length ≤ 1000
    · rw [if_pos hl] at p2
      refine ⟨line1000 (by rw [q2.length]; exact hl), fun t ht => ?_⟩
      have xt : Ext F2 H2 σ ε2 F2 (upd H2 t (.tup vs)) σ ε2 := Ext.refl.alloc ht
      have kt : Ok X.K T F2 (upd H2 t (.tup vs)) σ ε2 := ok_alloc k2 ht
      unfold vPutT at p2
      split at p2
      · rename_i dks e1
        split at p2
        · rename_i is e2
          split at p2
          · rename_i d ε3 e3
            obtain ⟨F3, k3, x3, r3, s3, _⟩ := frz_ok (y2.trans xt) kt ((q1.ext x2).ext xt) n1 e3
            split at p2
            · rename_i ks ds e4
              split at p2
              · rename_i hlen
                obtain ⟨a1, o1, sa, f1, g1, q3⟩ := k3.own j _ e4
                rw [s0] at sa; cases sa
                obtain ⟨us, rfl, hl1, hr⟩ := rpO_dT.mp q3
                have hl2 : ks.length = us.length := by rw [hr.length]; exact hl1
                have hvs := rps_kT e2 (ress_rps k2 q2 e1)
                refine ⟨a0, upd (upd H2 t (.tup vs)) a0 (.dT (putK (ks.zip us) (kT is) v)), rfl, .inr ⟨_, kT is, t, g1, rfl, by rw [upd_same, hvs], line1M' (by rw [List.length_zip]; omega), rfl⟩, ?_⟩
                rw [put_zip ks us (kT is) v hl2]
                exact p2 F3 _ σ (ok_write k3 e4 s0 (show RpO X.K T F3 (.dT _ _) (.dT _) from ⟨_, rfl, put_len ks ds (kT is) d hl1, hr.putds r3⟩)) (x3.write e4 s0) fun _ _ => rfl
              · exact p2.elim
            · exact p2.elim
          · exact p2.elim
        · exact p2.elim
      · exact p2.elim
    · rw [if_neg hl] at p2; exact p2.elim
  · exact p.elim
/-- d.get(k, x) -/
def isDD : D → Bool
  | .dK _ _ => true
  | _ => false
def vGetD (ε : En) (r1 r2 r3 : R) : O R :=
  match res ε r1, res ε r2, res ε r3 with
  | some (.dK ks ds), some dk, some x => match toKey dk with
    | some k => match lkp ks ds k with
      | some d => .ok (.fz d) ε
      | none => if flat x = true then .ok (.fz x) ε else .bad
    | none => .bad
  | _, _, _ => .bad
def dGetD (fo fi fx : En → O R) : En → O R := fun ε => (fo ε).bind fun r1 ε1 => match res ε1 r1 with
  | some d => if isDD d = true then (fi ε1).bind fun r2 ε2 => (fx ε2).bind fun r3 ε3 => vGetD ε3 r1 r2 r3 else .bad
  | none => .bad
theorem de_getD {fx : En → O R} {x : Expr} {apos cpos : Pos} (hu : X.A.units + 64 < cLine) (ho : DE X T W o fo) (hi : DE X T W i fi) (hx : DE X T W x fx) (m : M2 X o "get" apos i x cpos) : DE X T W (.Call (.Attribute o "get" apos) [i, x] [] cpos) (dGetD fo fi fx) := by
  refine PE.imp (pe_dget2 (by omega) ho hi hx m) fun σ H Q q => ?_
  obtain ⟨F, ε, k, p⟩ := q
  refine tD_use (g := fun r1 ε1 => match res ε1 r1 with | some d => if isDD d = true then (fi ε1).bind fun r2 ε2 => (fx ε2).bind fun r3 ε3 => vGetD ε3 r1 r2 r3 else .bad | none => .bad) k Ext.refl p fun v1 F1 H1 r1 ε1 k1 x1 _ q1 n1 p1 => ?_
  split at p1
  · rename_i d e0
    split at p1
    · rename_i hd
      cases d with
      | dK ks0 ds0 =>
        obtain ⟨a, vs0, rfl, hd0, _, _⟩ := res_rpi k1 q1 e0
        refine ⟨a, rfl, .inl ⟨_, hd0⟩, ?_⟩
        refine tD_use (g := fun r2 ε2 => (fx ε2).bind fun r3 ε3 => vGetD ε3 r1 r2 r3) k1 x1 p1 fun v2 F2 H2 r2 ε2 k2 x2 y2 q2 n2 p2 => ?_
        refine tD_use (g := fun r3 ε3 => vGetD ε3 r1 r2 r3) k2 y2 p2 fun v3 F3 H3 r3 ε3 k3 x3 y3 q3 n3 p3 => ?_
        unfold vGetD at p3
        split at p3
        · rename_i ks ds dk x0 e1 e2 e3
          split at p3
          · rename_i key e4
            obtain ⟨b, vs, eb, hd3, hl, hr⟩ := res_rpi k3 ((q1.ext x2).ext x3) e1
            cases eb
            obtain ⟨i1, i2⟩ := hr.lkp (ks := ks) (k := key)
            refine ⟨lkp ks vs key, .inl ⟨_, key, hd3, toKey_rp e4 (res_rp k3 (q2.ext x3) e2), by rw [lkp_val]⟩, ?_⟩
            split at p3
            · rename_i d e5
              obtain ⟨v, ev, rv⟩ := i1 d e5
              rw [ev]
              exact SE.fin (r := .fz d) k3 y3 p3 rv (by simp [newA])
            · rename_i e5
              rw [i2 e5]
              split at p3
              · rename_i hf
                exact SE.flat (H' := H3) k3 y3 p3 hf (res_rp k3 q3 e3)
              · exact p3.elim
          · exact p3.elim
        · exact p3.elim
      | _ => cases hd
    · exact p1.elim
  · exact p1.elim
/-! ### sorted(d), keys ints -/
def toIK : List Key → Option (List Int)
  | [] => some []
  | .inl i :: ks => (toIK ks).map (i :: ·)
  | .inr _ :: _ => none
theorem toIK_map : ∀ {ks : List Key} {ns : List Int}, toIK ks = some ns → ks = ns.map Sum.inl
  | [], ns, e => by cases e; rfl
  | .inl i :: ks, ns, e => by
    unfold toIK at e
    cases h : toIK ks with
    | none => rw [h] at e; cases e
    | some ms => rw [h] at e; cases e; rw [toIK_map h]; rfl
  | .inr _ :: _, ns, e => by cases e
def gSortedD : List D → Option An
  | [.dK ks ds] => match toIK ks with
    | some ns => if ns.length < 64 then some (.nw (.lst ((srt ns).map .int))) else none
    | none => none
  | _ => none
theorem fn_sortedD {K : PySem.W.Frag} : FnA K T gSortedD (fun xs H Q => ∃ (a : Addr) (kvs : List (Key × V)) (ks : List Int), xs = [.ref a] ∧ Rd H a (.dK kvs) ∧ kvs.map (·.1) = ks.map Sum.inl ∧ ks.length < 64 ∧
    ∀ (ys : List Int) (p : Addr), ys.Perm ks → ys.Pairwise (· ≤ ·) → H p = none → Q (.ref p) (upd H p (.lst (ys.map V.int)))) := fun ds a vs F H Q e r s q => by
  unfold gSortedD at e
  split at e
  · rename_i ks es
    split at e
    · rename_i ns e1
      split at e
      · rename_i h64
        cases e
        obtain ⟨v, rfl, b, us, rfl, hd, hl, hr⟩ := rpis1 r
        refine ⟨b, _, ns, rfl, hd, ?_, h64, fun ys p hp hs hn => ?_⟩
        · rw [← toIK_map e1]
          exact List.map_fst_zip (by rw [hr.length]; omega)
        · rw [srt_of hp hs]
          exact nw_lst q p _ hn ((Rps.ints _ _).mpr rfl)
      · cases e
    · cases e
  · cases e
theorem de_sortedD (hc : X.calm = true) (gl : Gl X "sorted") (hm : X.mg "sorted" = none) (ha : DA X T W [e] fs) (he : starEach [e] X.env = (false, eval e X.env) :: starEach [] X.env := by rfl) : DE X T W (.Call (.Name "sorted" p) [e] [] pos) (dFn gSortedD fs) := de_fn (call_sortedDI hc) fn_sortedD gl hm ha (he := he)
end
end DL

/-! DL30: the order of data: tuples of ints and of such tuples -/
namespace DL
open PySem PySem.Spec PyProof.Rows L2
def rLtD (K : PySem.W.Frag) : R2 := fun x y H Q => ∃ d e, Dp K H x d ∧ Dp K H y e ∧ SeqAt.shaped d = true ∧ SeqAt.shaped e = true ∧ PySem.W.alike d e = true ∧ d ≠ .none ∧ Q (.bl (PySem.W.dataLt d e)) H
theorem op_ltD {X : Cx} (hu : X.A.units + 64 < cLine) : OpR X (compareOp .Lt) (rLtD X.K) := by
  intro pins s σ H x y v u Q I rx ry h
  obtain ⟨d, e, hd, he, sd, se, ha, hn, q⟩ := h
  obtain ⟨as, r1⟩ := Dp.reads I d x v hd rx
  obtain ⟨bs, r2⟩ := Dp.reads I e y u he ry
  exact PySem.W.lt_data r1 r2 ha hn (SeqAt.room_of_shaped sd hu) ⟨.bl _, H, I, rfl, q⟩
theorem toP_none {d : D} (h : sok d = true) : toP d ≠ .none ∨ d = .non := by
  cases d with
  | non => exact .inr rfl
  | bl b => exact .inl fun z => by cases z
  | int b => exact .inl fun z => by cases z
  | str b => exact .inl fun z => by cases z
  | tup b => exact .inl fun z => by cases z
  | lst b => exact .inl fun z => by cases z
  | _ => unfold sok at h; cases h
/-- two data that the order knows -/
def ltOk (d1 d2 : D) : Bool := okq d1 && okq d2 && PySem.W.alike (toP d1) (toP d2) && !isNon d1
def dLt (d1 d2 : D) : Bool := PySem.W.dataLt (toP d1) (toP d2)
def gLtD (d1 d2 : D) : Option D := if ltOk d1 d2 = true then some (.bl (dLt d1 d2)) else none
theorem ltOk_of {d1 d2 : D} (h : ltOk d1 d2 = true) : (sok d1 = true ∧ dep d1 ≤ 20) ∧ (sok d2 = true ∧ dep d2 ≤ 20) ∧ PySem.W.alike (toP d1) (toP d2) = true ∧ toP d1 ≠ .none := by
  unfold ltOk okq at h
  simp only [Bool.and_eq_true, decide_eq_true_eq, Bool.not_eq_true'] at h
  obtain ⟨⟨⟨⟨a1, a2⟩, b1, b2⟩, c⟩, d⟩ := h
  refine ⟨⟨a1, a2⟩, ⟨b1, b2⟩, c, ?_⟩
  rcases toP_none a1 with z | z
  · exact z
  · rw [z] at d; cases d
theorem op2_ltD {K : PySem.W.Frag} {T : Tab} : Op2 K T gLtD (rLtD K) := fun d1 d2 d x y H Q e r1 r2 q => by
  unfold gLtD at e
  split at e
  · rename_i h
    cases e
    obtain ⟨⟨a1, a2⟩, ⟨b1, b2⟩, c, n⟩ := ltOk_of h
    exact ⟨rfl, _, _, rp_dp d1 x a1 r1, rp_dp d2 y b1 r2, toP_shaped a1 a2, toP_shaped b1 b2, c, n, q _ (rp_bl.mpr rfl)⟩
  · cases e
section
variable {X : Cx} {T : Tab} {W : WX} {e a b c : Expr} {es : List Expr} {f fa fb fc : En → O R} {fs : En → O (List R)} {pos p : Pos}
theorem de_ltD (hu : X.A.units + 64 < cLine) (ha : DE X T W a fa) (hb : DE X T W b fb) : DE X T W (.Compare a [.Lt] [b] pos) (dOp2 gLtD fa fb) := de_cmp (op_ltD hu) op2_ltD ha hb (nomark _)
theorem dt_ltD (hu : X.A.units + 64 < cLine) (ha : DE X T W a fa) (hb : DE X T W b fb) : DT X T W (.Compare a [.Lt] [b] pos) (dTst (dOp2 gLtD fa fb)) := dt_cmp (op_ltD hu) op2_ltD ha hb (nomark _)
/-! ### min of a list of data -/
def minDD (x : D) (xs : List D) : D := xs.foldl (fun a y => if dLt y a = true then y else a) x
theorem minDD_toP : ∀ (xs : List D) (x : D), toP (minDD x xs) = PySem.W.minD (toP x) (xs.map toP)
  | [], x => rfl
  | y :: xs, x => by
    show toP (minDD (if dLt y x = true then y else x) xs) = PySem.W.minD (if PySem.W.dataLt (toP y) (toP x) then toP y else toP x) (xs.map toP)
    rw [minDD_toP xs]
    congr 1
    show toP (if PySem.W.dataLt (toP y) (toP x) = true then y else x) = _
    split <;> rfl
theorem minDD_mem : ∀ (xs : List D) (x : D), minDD x xs ∈ x :: xs
  | [], x => List.mem_cons_self
  | y :: xs, x => by
    have := minDD_mem xs (if dLt y x = true then y else x)
    show minDD (if dLt y x = true then y else x) xs ∈ _
    split at this
    · rename_i h; rw [if_pos h]; exact List.mem_cons_of_mem _ this
    · rename_i h
      rw [if_neg h]
      rcases List.mem_cons.mp this with z | z
      · rw [z]; exact List.mem_cons_self
      · exact List.mem_cons_of_mem _ (List.mem_cons_of_mem _ z)
mutual
theorem toP_inj : ∀ d e : D, sok d = true → sok e = true → toP d = toP e → d = e
  | .non, e, _, he, h => by cases e <;> first | (unfold sok at he; cases he; done) | rfl | (unfold toP at h; cases h)
  | .bl b, e, _, he, h => by cases e <;> first | (unfold sok at he; cases he; done) | (unfold toP at h; cases h; rfl) | (unfold toP at h; cases h)
  | .int b, e, _, he, h => by cases e <;> first | (unfold sok at he; cases he; done) | (unfold toP at h; cases h; rfl) | (unfold toP at h; cases h)
  | .str b, e, _, he, h => by cases e <;> first | (unfold sok at he; cases he; done) | (unfold toP at h; cases h; rfl) | (unfold toP at h; cases h)
  | .tup ds, .tup es, hd, he, h => by
    unfold toP at h
    unfold sok at hd he
    injection h with h
    rw [toPs_inj ds es hd he h]
  | .lst ds, .lst es, hd, he, h => by
    unfold toP at h
    unfold sok at hd he
    injection h with h
    rw [toPs_inj ds es hd he h]
  | .tup ds, .non, _, he, h => by unfold toP at h; cases h
  | .tup ds, .bl _, _, he, h => by unfold toP at h; cases h
  | .tup ds, .int _, _, he, h => by unfold toP at h; cases h
  | .tup ds, .str _, _, he, h => by unfold toP at h; cases h
  | .tup ds, .lst _, _, he, h => by unfold toP at h; cases h
  | .lst ds, .non, _, he, h => by unfold toP at h; cases h
  | .lst ds, .bl _, _, he, h => by unfold toP at h; cases h
  | .lst ds, .int _, _, he, h => by unfold toP at h; cases h
  | .lst ds, .str _, _, he, h => by unfold toP at h; cases h
  | .lst ds, .tup _, _, he, h => by unfold toP at h; cases h
  | .tup _, .dK _ _, _, he, _ => by unfold sok at he; cases he
  | .tup _, .dT _ _, _, he, _ => by unfold sok at he; cases he
  | .tup _, .ins _ _ _, _, he, _ => by unfold sok at he; cases he
  | .tup _, .fn _, _, he, _ => by unfold sok at he; cases he
  | .tup _, .ty _, _, he, _ => by unfold sok at he; cases he
  | .lst _, .dK _ _, _, he, _ => by unfold sok at he; cases he
  | .lst _, .dT _ _, _, he, _ => by unfold sok at he; cases he
  | .lst _, .ins _ _ _, _, he, _ => by unfold sok at he; cases he
  | .lst _, .fn _, _, he, _ => by unfold sok at he; cases he
  | .lst _, .ty _, _, he, _ => by unfold sok at he; cases he
  | .dK _ _, _, hd, _, _ => by unfold sok at hd; cases hd
  | .dT _ _, _, hd, _, _ => by unfold sok at hd; cases hd
  | .ins _ _ _, _, hd, _, _ => by unfold sok at hd; cases hd
  | .fn _, _, hd, _, _ => by unfold sok at hd; cases hd
  | .ty _, _, hd, _, _ => by unfold sok at hd; cases hd
theorem toPs_inj : ∀ ds es : List D, soks ds = true → soks es = true → toPs ds = toPs es → ds = es
  | [], [], _, _, _ => rfl
  | [], _ :: _, _, _, h => by unfold toPs at h; cases h
  | _ :: _, [], _, _, h => by unfold toPs at h; cases h
  | d :: ds, e :: es, hd, he, h => by
    unfold toPs at h
    unfold soks at hd he
    rw [Bool.and_eq_true] at hd he
    injection h with h1 h2
    rw [toP_inj d e hd.1 he.1 h1, toPs_inj ds es hd.2 he.2 h2]
end
theorem toPs_map : ∀ ds : List D, toPs ds = ds.map toP
  | [] => by unfold toPs; rfl
  | d :: ds => by unfold toPs; rw [toPs_map ds, List.map_cons]
def rMinD (K : PySem.W.Frag) : List V → Hp → VK → Prop := fun xs H Q => ∃ (a : Addr) (vs : List V) (d : PyData) (ds : List PyData), xs = [.ref a] ∧ SqL K H a vs ∧ DpAll K H vs (d :: ds) ∧ PySem.W.AlikeAll (d :: ds) ∧ PyData.canLayAll0 (d :: ds) = true ∧ PyData.depthAll (d :: ds) ≤ 20 ∧
  ∀ (i : Nat) (v : V), vs[i]? = some v → (d :: ds)[i]? = some (PySem.W.minD d ds) → Q v H
theorem dpAll_get {K : PySem.W.Frag} {H : Hp} {vs : List V} {ds : List PyData} (h : DpAll K H vs ds) : ∀ {i : Nat} {v : V}, vs[i]? = some v → ∃ d, ds[i]? = some d ∧ Dp K H v d := by
  induction vs generalizing ds with
  | nil => intro i v e; simp at e
  | cons u vs ih =>
    cases h with
    | cons h1 h2 =>
      intro i v e
      cases i with
      | zero => simp at e; subst e; exact ⟨_, rfl, h1⟩
      | succ i =>
        obtain ⟨d', e1, h3⟩ := ih h2 (i := i) (v := v) (by simpa using e)
        exact ⟨d', by simpa using e1, h3⟩
theorem canLay_mem : ∀ {ds : List PyData} {d : PyData}, PyData.canLayAll0 ds = true → d ∈ ds → PyData.canLay0 d = true
  | [], d, _, h => by simp at h
  | e :: ds, d, h, hm => by
    unfold PyData.canLayAll0 at h
    rw [Bool.and_eq_true] at h
    rcases List.mem_cons.mp hm with z | z
    · rw [z]; exact h.1
    · exact canLay_mem h.2 z
theorem cr_minD {X : Cx} (hc : X.calm = true) (hu : X.A.units + 64 < cLine) : CallR X (.builtin "min") (rMinD X.K) := by
  intro pins s σ H xs us Q I r h
  obtain ⟨a, vs, d, ds, rfl, hs, hd, ha, hl, hdp, q⟩ := h
  obtain ⟨its, rv, p, hz⟩ := I.list hs
  rw [Vals.ref1 r]
  obtain ⟨as, rs⟩ := Dp.readsAll I (d :: ds) vs its hd rv
  refine PySem.W.min_list_data (I.ok.hd hc) p.isList (by simpa using rs) ha (by omega) fun i v h' tk bs hv hr hk => ?_
  have hv : its[i]? = some v := by simpa using hv
  have I' : Inv X pins σ H { s with heap := h', toks := tk } := I.kept hk
  obtain ⟨x, ex, rx⟩ : ∃ x, vs[i]? = some x ∧ RelV x v := by
    have hlen := rv.length
    have hi : i < its.length := (List.getElem?_eq_some_iff.mp hv).1
    have hi' : i < vs.length := by omega
    obtain ⟨u, eu, ru⟩ := rv.get (List.getElem?_eq_getElem hi')
    rw [hv] at eu
    cases eu
    exact ⟨_, List.getElem?_eq_getElem hi', ru⟩
  obtain ⟨d', ed, hd'⟩ := dpAll_get hd ex
  obtain ⟨as', r'⟩ := Dp.reads I' d' x v hd' rx
  have e : d' = PySem.W.minD d ds := PySem.SeqAt.Reads.unique d' _ v as' bs (canLay_mem hl (List.mem_of_getElem? ed)) r' hr
  exact ⟨x, H, I', rx, q i x ex (by rw [ed, e])⟩
def minOk (d : D) (ds : List D) : Bool := soks (d :: ds) && decide (deps (d :: ds) ≤ 20) && ((d :: ds).all fun x => (d :: ds).all fun y => PySem.W.alike (toP x) (toP y)) && ((d :: ds).all fun x => !isNon x)
def gMinD : List D → Option An
  | [.lst (d :: ds)] => if minOk d ds = true then some (.fz (minDD d ds)) else none
  | _ => none
theorem soks_mem : ∀ {ds : List D} {d : D}, soks ds = true → d ∈ ds → sok d = true
  | [], d, _, h => by simp at h
  | e :: ds, d, h, hm => by
    unfold soks at h
    rw [Bool.and_eq_true] at h
    rcases List.mem_cons.mp hm with z | z
    · rw [z]; exact h.1
    · exact soks_mem h.2 z
theorem fn_minD {K : PySem.W.Frag} {T : Tab} : FnA K T gMinD (rMinD K) := fun ds a vs F H Q e r s q => by
  unfold gMinD at e
  split at e
  · rename_i d es
    split at e
    · rename_i h
      cases e
      obtain ⟨v, rfl, b, us, rfl, hs, hr⟩ := rpis1 r
      unfold minOk at h
      simp only [Bool.and_eq_true, decide_eq_true_eq] at h
      obtain ⟨⟨⟨h1, h2⟩, h3⟩, h4⟩ := h
      have hrH := Rps.mono s _ _ hr
      have hd := rps_dp (d :: es) us h1 hrH
      unfold toPs at hd
      refine ⟨b, us, toP d, toPs es, rfl, hs, hd, ⟨fun x hx y hy => ?_, fun x hx => ?_⟩, ?_, ?_, fun i v hv hi => ?_⟩
      · have hx' : x ∈ (d :: es).map toP := by rw [← toPs_map]; unfold toPs; exact hx
        have hy' : y ∈ (d :: es).map toP := by rw [← toPs_map]; unfold toPs; exact hy
        obtain ⟨dx, mx, rfl⟩ := List.mem_map.mp hx'
        obtain ⟨dy, my, rfl⟩ := List.mem_map.mp hy'
        exact List.all_eq_true.mp (List.all_eq_true.mp h3 dx mx) dy my
      · have hx' : x ∈ (d :: es).map toP := by rw [← toPs_map]; unfold toPs; exact hx
        obtain ⟨dx, mx, rfl⟩ := List.mem_map.mp hx'
        have := List.all_eq_true.mp h4 dx mx
        rcases toP_none (soks_mem h1 mx) with z | z
        · exact z
        · rw [z] at this; cases this
      · have := toPs_lay (d :: es) h1
        unfold toPs at this
        exact this
      · have := toPs_dep (d :: es) h1
        unfold toPs at this
        rw [this]; exact h2
      · have e1 : (toP d :: toPs es)[i]? = some (toP (minDD d es)) := by rw [minDD_toP, ← toPs_map]; exact hi
        obtain ⟨dx, ex, rx⟩ := hr.get' hv
        have e2 : (toP d :: toPs es)[i]? = some (toP dx) := by
          have : (toPs (d :: es))[i]? = some (toP dx) := by rw [toPs_map, List.getElem?_map, ex]; rfl
          unfold toPs at this
          exact this
        rw [e2] at e1
        have e3 := toP_inj dx (minDD d es) (soks_mem h1 (List.mem_of_getElem? ex)) (soks_mem h1 (minDD_mem es d)) (Option.some.inj e1)
        rw [e3] at rx
        exact q v rx
    · cases e
  · cases e
theorem de_minD (hc : X.calm = true) (hu : X.A.units + 64 < cLine) (gl : Gl X "min") (hm : X.mg "min" = none) (ha : DA X T W [e] fs) (he : starEach [e] X.env = (false, eval e X.env) :: starEach [] X.env := by rfl) : DE X T W (.Call (.Name "min" p) [e] [] pos) (dFn gMinD fs) := de_fn (cr_minD hc hu) fn_minD gl hm ha (he := he)
end
end DL

/-! DL31: a dict of one written pair; dict(pairs) -/
namespace DL
open PySem PySem.Spec PyProof.Rows L2
section
variable {X : Cx} {T : Tab} {W : WX} {e : Expr} {f : En → O R} {fs : En → O (List R)} {pos p : Pos}
def vDisp1 (n : Int) (ε : En) (r : R) : O R :=
  match frz ε r with
  | some (d, ε1) => .ok (.new (.dK [.inl n] [d])) ε1
  | none => .bad
def dDisp1 (n : Int) (f : En → O R) : En → O R := fun ε => (f ε).bind fun r ε1 => vDisp1 n ε1 r
theorem de_disp1 {n : Int} {j : Nat} {kpos : Pos} (h : DE X T W e f) : DE X T W (.Dict [some (.Constant (.int n) j kpos)] [e] pos) (dDisp1 n f) := by
  refine PE.imp (pe_disp (pps_cons pe_int h pps_nil) rfl rfl (by simp) (by simp)) fun σ H Q q => ?_
  obtain ⟨F, ε, k, q⟩ := q
  intro a ha
  have kA : Ok X.K T F (upd H a (.dK [])) σ ε := ok_alloc k ha
  have no := not_own_fresh k ha
  show tD X.K T W f σ (upd H a (.dK [])) _
  refine tD_use (g := fun r ε1 => vDisp1 n ε1 r) kA (Ext.refl.alloc ha) q fun v F1 H1 r ε1 k1 x0 x1 q1 n1 p1 => ?_
  unfold vDisp1 at p1
  split at p1
  · rename_i d ε2 e1
    have n2 : ∀ b ∈ newA r v, H b = none := fun b hb => by
      have z := n1 b hb
      by_cases y : b = a
      · rw [y]; exact ha
      · rw [upd_ne y] at z; exact z
    obtain ⟨F2, k2, x2, r2, s2, fr2, ow2⟩ := frz_ok x1 k1 q1 n2 e1
    have h1 : H1 a = some (.dK []) := x0.hk a _ upd_same no
    have f1 : F1 a = none := by
      cases z : F1 a with
      | none => rfl
      | some u =>
        rcases x0.fn a (by rw [z]; simp) with z2 | z2 | z2
        · exact absurd (free_of k ha) z2
        · rw [upd_same] at z2; cases z2
        · exact absurd z2 no
    have no1 : ¬ OwnAt σ ε1 a := fun z => by
      rcases x0.on a z with z | z
      · exact no z
      · rw [upd_same] at z; cases z
    have no2 : ¬ OwnAt σ ε2 a := fun z => no1 (ow2 a z)
    have f2 : F2 a = none := by
      cases z : F2 a with
      | none => rfl
      | some u =>
        rcases fr2 a (by rw [z]; simp) with z2 | z2 | z2
        · exact absurd f1 z2
        · have z3 := n1 a z2
          rw [upd_same] at z3; cases z3
        · exact absurd z2 no1
    refine ⟨h1, [(.inl n, v)], rfl, by simp, ?_⟩
    show Q (.ref a) (upd H1 a (.dK [(.inl n, v)]))
    have k3 : Ok X.K T F2 (upd H1 a (.dK [(.inl n, v)])) σ ε2 := by
      refine ⟨fun b u z => ?_, k2.len, k2.fz, fun i d' z => ?_, k2.sep⟩
      · rw [upd_ne fun w => by rw [w, f2] at z; cases z]; exact k2.sub b u z
      · obtain ⟨b, o, z1, z2, z3, z4⟩ := k2.own i d' z
        refine ⟨b, o, z1, z2, ?_, z4⟩
        rw [upd_ne fun w => no2 ⟨i, d', z, by rw [← w]; exact z1⟩]; exact z3
    have x3 : Ext F H σ ε F2 (upd H1 a (.dK [(.inl n, v)])) σ ε2 := by
      refine ⟨x2.fs, fun b o z w => ?_, fun b z => ?_, x2.fn, x2.on⟩
      · rw [upd_ne fun y => by rw [y, ha] at z; cases z]; exact x2.hk b o z w
      · by_cases y : b = a
        · subst y; rw [upd_same] at z; cases z
        · rw [upd_ne y] at z; exact x2.ht b z
    exact p1 F2 _ k3 x3 (.ref a) ⟨a, _, rfl, f2, upd_same, ⟨[v], rfl, rfl, rps_cons.mpr ⟨v, [], rfl, r2, rps_nil.mpr rfl⟩⟩, no2⟩ fun b hb => by
      have e : b = a := by simpa [newA] using hb
      subst e; exact ha
  · exact p1.elim
/-! ### sorted(tuple of ints) -/
theorem call_sortedTu (hcalm : X.calm = true) : CallR X (.builtin "sorted") (fun xs H Q => ∃ (a : Addr) (ns : List Int), xs = [.ref a] ∧ SqT X.K H a (ns.map V.int) ∧ ns.length < 64 ∧
    ∀ (ys : List Int) (p : Addr), ys.Perm ns → ys.Pairwise (· ≤ ·) → H p = none → Q (.ref p) (upd H p (.lst (ys.map V.int)))) := by
  intro pins s σ H xs us Q I r q
  obtain ⟨a, ns, ex, hd, h64, q⟩ := q
  subst ex
  obtain ⟨u, eu, rx⟩ := vals1 r
  subst eu
  cases rx
  obtain ⟨its, rel, ⟨o, ho, hc, n, hdat⟩, hz⟩ := I.tuple hd
  have hS := rel.ints
  have hl : its.length = ns.length := hS.length
  refine Calls.call_function_entry PyProof.Rows.kind_sorted PyProof.Rows.plain_sorted PyProof.Rows.entry_sorted (PyProof.Rows.args_sorted1 _) ?_
  unfold Builtin.«sorted»
  refine wpAny_bind (m := checkCount "sorted" 1 1 _) (wpAny_pure ?_)
  refine wpAny_bind (wpAny_collect_seq a (.inr rfl) ho hc hdat (fun h' hk => ?_) (by rw [List.size_toArray, hl, sizeLine_eq]; omega))
  have I1 : Inv X pins σ H { s with heap := h', toks := s.toks } := I.kept hk
  show wpAny _ _ _ _ _ { s with heap := h' }
  refine wpAny_bind (wpAny_newList ?_ (by simp only [List.toList_toArray]; rw [hl, sizeLine_eq]; omega))
  simp only [List.toList_toArray]
  have hoL : (h'.push (seqObj "list" its.toArray 0)).get? h'.objs.size = some (seqObj "list" its.toArray 0) := Heap.get?_push_size _ rfl
  show wpAny _ _ _ _ _ { s with heap := h'.push (seqObj "list" its.toArray 0) }
  refine wpAny_bind (wpAny_holding (wpAny_call_entry PyProof.Rows.slot_list_sort ⟨_, hoL, rfl⟩ PyProof.Rows.entry_list_sort
    (PyProof.Rows.list_sort_tree (s := { s with heap := h'.push (seqObj "list" its.toArray 0) }) hoL hS (by rw [hl]; exact h64) fun out ys g1 g2 g3 => ⟨_, rfl, ?_⟩) (PyProof.Rows.args_list_sort _)))
  obtain ⟨e', he'⟩ := PyProof.Rows.sortedHeap_at (vs := its) (out := out) hoL
  have hlen : (ys.map V.int).length ≤ sizeLine := by
    rw [List.length_map, g2.length_eq]
    exact Nat.le_trans (Nat.le_of_lt h64) (by decide)
  refine wpAny_pure ⟨_, rfl, .ref h'.objs.size, upd H h'.objs.size (.lst (ys.map V.int)), I1.laid (t' := s.toks) (fun b u e => ?_) (Nat.le_refl _)
    (show ObjOk X.prog X.w _ _ _ (.lst (ys.map V.int)) from ⟨hlen, out.toList, e', vals_of_ints g1, by rw [Array.toArray_toList]; exact he'⟩), rfl, q ys _ g2 g3 (I1.hok.fresh (Nat.le_refl _))⟩
  have hb : b < h'.objs.size := Heap.lt_size e
  rw [PyProof.Rows.sortedHeap_old (Nat.ne_of_lt hb) (by rw [size_push']; exact Nat.lt_succ_of_lt hb)]
  exact Heap.get?_push_of_some _ e
def gSortedTu : List D → Option An
  | [.tup ds] => match toIs ds with
    | some ns => if ns.length < 64 then some (.nw (.lst ((srt ns).map .int))) else none
    | none => none
  | _ => none
theorem fn_sortedTu {K : PySem.W.Frag} : FnA K T gSortedTu (fun xs H Q => ∃ (a : Addr) (ns : List Int), xs = [.ref a] ∧ SqT K H a (ns.map V.int) ∧ ns.length < 64 ∧
    ∀ (ys : List Int) (p : Addr), ys.Perm ns → ys.Pairwise (· ≤ ·) → H p = none → Q (.ref p) (upd H p (.lst (ys.map V.int)))) := fun ds a vs F H Q e r s q => by
  unfold gSortedTu at e
  split at e
  · rename_i ds
    split at e
    · rename_i ns e1
      split at e
      · rename_i h64
        cases e
        obtain ⟨v, rfl, b, us, rfl, hq, hr⟩ := rpis1 r
        rw [rps_ints e1 hr] at hq
        refine ⟨b, ns, rfl, (hq.mono s).t, h64, fun ns' p hp hs hn => ?_⟩
        rw [srt_of hp hs]
        exact nw_lst q p _ hn ((Rps.ints _ _).mpr rfl)
      · cases e
    · cases e
  · cases e
theorem de_sortedTu (hc : X.calm = true) (gl : Gl X "sorted") (hm : X.mg "sorted" = none) (ha : DA X T W [e] fs) (he : starEach [e] X.env = (false, eval e X.env) :: starEach [] X.env := by rfl) : DE X T W (.Call (.Name "sorted" p) [e] [] pos) (dFn gSortedTu fs) := de_fn (call_sortedTu hc) fn_sortedTu gl hm ha (he := he)
end
end DL

/-! DL32: dict(a tuple of pairs) -/
namespace DL
open PySem PySem.Spec PyProof.Rows L2
section
variable {X : Cx} {T : Tab} {W : WX} {e : Expr} {f : En → O R} {fs : En → O (List R)} {pos p : Pos}
def get2 (h : Heap) (b : Addr) : Value × Value :=
  match h.get? b with
  | some o => match o.data with
    | .seq xs _ => (xs.toList.headD .none, xs.toList.tail.headD .none)
    | _ => (.none, .none)
  | none => (.none, .none)
theorem get2_eq {h : Heap} {b : Addr} {u v : Value} (t : IsTup h b #[u, v]) : get2 h b = (u, v) := by
  obtain ⟨o, ho, hc, n, hd⟩ := t
  unfold get2
  rw [ho]
  simp only [hd]
  rfl
theorem call_dictPT (hcalm : X.calm = true) : CallR X (.type "dict") (fun xs H Q => ∃ (a : Addr) (ps : List Addr) (kvs : List (Key × V)), xs = [.ref a] ∧ SqN X.K H a (ps.map V.ref) ∧ Paired (fun p kv => SqT X.K H p [kV kv.1, kv.2]) ps kvs ∧
    ∀ p, H p = none → Q (.ref p) (upd H p (.dK (mergeK [] kvs)))) := by
  intro pins s σ H xs us Q I r q
  obtain ⟨a, ps, kvs, ex, hq, hp, q⟩ := q
  subst ex
  obtain ⟨u, eu, rx⟩ := vals1 r
  subst eu
  cases rx
  obtain ⟨its, rv, ⟨o, ho, hc, n, hdat⟩, hz⟩ := I.tuple hq.t
  obtain ⟨ob, hob, hod⟩ := (sqN_ty I hq).2 a rfl
  rw [ho] at hob
  cases hob
  have ei := refs_at rv
  subst ei
  rw [List.length_map] at hz
  obtain ⟨prs, rel, hl, hpr⟩ := pairs_of I hp
  have hps : (ps.map (get2 s.heap)).length = ps.length := List.length_map ..
  have hat : ∀ j, j < ps.length → ∃ b q u, ps[j]? = some b ∧ prs[j]? = some q ∧ IsTup s.heap b #[u, q.2] ∧ keyIs q.1 u = true := fun j hj => by
    obtain ⟨q', e⟩ : ∃ q, prs[j]? = some q := ⟨prs[j], List.getElem?_eq_getElem (by omega)⟩
    obtain ⟨b, u, e1, e2, e3⟩ := hpr j q' e
    exact ⟨b, q', u, e1, e, e2, e3⟩
  refine PySem.call_dict_pairs (knd := mixKind X.prog X.w) (kvs := prs) (PySem.PairArg.tuple a (ps.map Value.ref).toArray (fun j => ps.getD j 0) (ps.map (get2 s.heap))) (I.ok.hd hcalm)
    ⟨⟨o, n, ho, hc, hod, hdat⟩, by simp, fun j k v hj => ?_⟩ ⟨by simp [hl], fun i key v hi => ?_⟩ (by rw [List.length_map]; exact hz) fun h' tk hd' k => ?_
  · obtain ⟨b, q', u, e1, e2, e3, e4⟩ := hat j (by have := (List.getElem?_eq_some_iff.mp hj).1; omega)
    rw [List.getElem?_map, e1, Option.map_some, get2_eq e3] at hj
    cases hj
    refine ⟨by simp [e1], .inl ?_⟩
    show s.heap.IsTuple (ps.getD j 0) _
    rw [List.getD_eq_getElem?_getD, e1]
    exact e3
  · obtain ⟨b, q', u, e1, e2, e3, e4⟩ := hat i (by have := (List.getElem?_eq_some_iff.mp (show _ = some (key, v) from hi)).1; omega)
    have hi : (ps.map (get2 s.heap))[i]? = some (key, v) := hi
    rw [List.getElem?_map, e1, Option.map_some, get2_eq e3] at hi
    cases hi
    exact ⟨q'.1, e2, e4⟩
  · have hm : (s.heap.objs.size == sysModules) = false := beq_eq_false_iff_ne.mpr (Nat.ne_of_gt I.big)
    have hlen : (mergeK [] kvs).length ≤ sizeLine := by
      refine Nat.le_trans (length_mergeK kvs []) ?_
      rw [List.length_nil, Nat.zero_add, rel.length, hl]
      exact hz
    exact ⟨.ref s.heap.objs.size, upd H s.heap.objs.size (.dK (mergeK [] kvs)), I.laid (t' := tk) (fun b o e => k b o (by simp) e) (Nat.le_refl _) (show ObjOk X.prog X.w _ _ _ (.dK (mergeK [] kvs)) from ⟨hlen, hm, merged [] prs, KV.merge rel .nil, hd'⟩), rfl, q _ (I.hok.fresh (Nat.le_refl _))⟩
def toPair : D → Option (Key × D)
  | .tup [dk, d] => (toKey dk).map fun k => (k, d)
  | _ => none
def toPairs : List D → Option (List (Key × D))
  | [] => some []
  | d :: ds => match toPair d, toPairs ds with
    | some p, some ps => some (p :: ps)
    | _, _ => none
def mrg : List Key → List D → List (Key × D) → List Key × List D
  | ks, ds, [] => (ks, ds)
  | ks, ds, q :: r => mrg (putks ks q.1) (putds ks ds q.1 q.2) r
def gDictP : List D → Option An
  | [.tup ds] => match toPairs ds with
    | some ps => some (.nw (.dK (mrg [] [] ps).1 (mrg [] [] ps).2))
    | none => none
  | _ => none
theorem toPairs_rp {K : PySem.W.Frag} {F H : Hp} (s : Same F H) : ∀ {ds : List D} {ps : List (Key × D)} {vs : List V}, toPairs ds = some ps → Rps K T F ds vs →
    ∃ (as : List Addr) (us : List V), vs = as.map V.ref ∧ Rps K T F (ps.map (·.2)) us ∧ Paired (fun p kv => SqT K H p [kV kv.1, kv.2]) as ((ps.map (·.1)).zip us)
  | [], ps, vs, e, r => by
    cases e
    rw [rps_nil.mp r]
    exact ⟨[], [], rfl, rps_nil.mpr rfl, .nil⟩
  | d :: ds, ps, vs, e, r => by
    unfold toPairs at e
    split at e
    · rename_i q qs e1 e2
      cases e
      obtain ⟨v, w, rfl, r1, r2⟩ := rps_cons.mp r
      obtain ⟨as, us, rfl, h1, h2⟩ := toPairs_rp s e2 r2
      unfold toPair at e1
      split at e1
      · rename_i dk d'
        cases e3 : toKey dk with
        | none => rw [e3] at e1; cases e1
        | some k =>
          rw [e3] at e1
          cases e1
          obtain ⟨a, ws, rfl, hq, hr⟩ := rp_tup.mp r1
          obtain ⟨v1, w1, rfl, g1, g2⟩ := rps_cons.mp hr
          obtain ⟨v2, w2, rfl, g3, g4⟩ := rps_cons.mp g2
          rw [rps_nil.mp g4] at hq
          have := toKey_rp e3 g1
          subst this
          exact ⟨a :: as, v2 :: us, rfl, rps_cons.mpr ⟨v2, us, rfl, g3, h1⟩, .cons (hq.mono s).t h2⟩
      · cases e1
    · cases e
theorem mrg_zip {K : PySem.W.Frag} {F : Hp} : ∀ (ps : List (Key × D)) (us : List V) (ks : List Key) (ds : List D) (vs : List V), Rps K T F (ps.map (·.2)) us → Rps K T F ds vs → ks.length = ds.length →
    ∃ ws, mergeK (ks.zip vs) ((ps.map (·.1)).zip us) = (mrg ks ds ps).1.zip ws ∧ (mrg ks ds ps).1.length = (mrg ks ds ps).2.length ∧ Rps K T F (mrg ks ds ps).2 ws
  | [], us, ks, ds, vs, h, r, hl => ⟨vs, rfl, hl, r⟩
  | q :: ps, us, ks, ds, vs, h, r, hl => by
    obtain ⟨u, w, rfl, h1, h2⟩ := rps_cons.mp h
    have hl2 : ks.length = vs.length := by rw [r.length]; exact hl
    obtain ⟨ws, e, el, er⟩ := mrg_zip ps w (putks ks q.1) (putds ks ds q.1 q.2) (putds ks vs q.1 u) h2 (r.putds h1) (put_len ks ds q.1 q.2 hl)
    refine ⟨ws, ?_, el, er⟩
    rw [show mrg ks ds (q :: ps) = mrg (putks ks q.1) (putds ks ds q.1 q.2) ps from rfl, ← e, ← put_zip ks vs q.1 u hl2]
    rfl
theorem fn_dictP {K : PySem.W.Frag} : FnA K T gDictP (fun xs H Q => ∃ (a : Addr) (ps : List Addr) (kvs : List (Key × V)), xs = [.ref a] ∧ SqN K H a (ps.map V.ref) ∧ Paired (fun p kv => SqT K H p [kV kv.1, kv.2]) ps kvs ∧
    ∀ p, H p = none → Q (.ref p) (upd H p (.dK (mergeK [] kvs)))) := fun ds a vs F H Q e r s q => by
  unfold gDictP at e
  split at e
  · rename_i ds
    split at e
    · rename_i ps e1
      cases e
      obtain ⟨v, rfl, b, us, rfl, hq, hr⟩ := rpis1 r
      obtain ⟨as, ws, rfl, h1, h2⟩ := toPairs_rp s e1 hr
      obtain ⟨zs, z1, z2, z3⟩ := mrg_zip ps ws [] [] [] h1 (rps_nil.mpr rfl) rfl
      refine ⟨b, as, _, rfl, hq.mono s, h2, fun p hp => ?_⟩
      have z1 : mergeK [] ((ps.map (·.1)).zip ws) = (mrg [] [] ps).1.zip zs := z1
      rw [z1]
      exact q p _ hp (rpO_dK.mpr ⟨zs, rfl, z2, z3⟩)
    · cases e
  · cases e
theorem de_dictP (hc : X.calm = true) (gl : Gl X "dict") (hm : X.mg "dict" = none) (ha : DA X T W [e] fs) (he : starEach [e] X.env = (false, eval e X.env) :: starEach [] X.env := by rfl) : DE X T W (.Call (.Name "dict" p) [e] [] pos) (dFn gDictP fs) := de_fnTy (call_dictPT hc) fn_dictP gl hm ha (he := he)
end
end DL

/-! DL33: comprehensions with two fors -/
namespace DL
open PySem PySem.Spec PyProof.Rows L2
section
variable {K : PySem.W.Frag} {T : Tab} {W : WX} {F0 H0 F H F' H' : Hp} {σ σ' : L2.St} {ε ε' : En} {D : Addr} {va : List V} {vs : List Nat}
/-- the growing list at D: no slot owns it, nobody froze it -/
structure DkL (F H : Hp) (σ : L2.St) (ε : En) (D : Addr) (va : List V) : Prop where
  h : H D = some (.lst va)
  f : F D = none
  n : ¬ OwnAt σ ε D
theorem DkL.ext (k : DkL F H σ ε D va) (x : Ext F H σ ε F' H' σ' ε') : DkL F' H' σ' ε' D va where
  h := x.hk _ _ k.h k.n
  f := by
    cases z : F' D with
    | none => rfl
    | some u =>
      rcases x.fn D (by rw [z]; simp) with w | w | w
      · exact absurd k.f w
      · rw [k.h] at w; cases w
      · exact absurd w k.n
  n := fun z => by
    rcases x.on D z with w | w
    · exact k.n w
    · rw [k.h] at w; cases w
theorem DkL.grow (k : DkL F H σ ε D va) (s : Same H H') (fr : ∀ a, F' a ≠ none → F a ≠ none ∨ H a = none) : DkL F' H' σ ε D va where
  h := s _ _ k.h
  f := by
    cases z : F' D with
    | none => rfl
    | some u =>
      rcases fr D (by rw [z]; simp) with w | w
      · exact absurd k.f w
      · rw [k.h] at w; cases w
  n := k.n
theorem DkL.wipe (k : DkL F H σ ε D va) : DkL F H (L2.wipe σ vs) (wipeE ε vs) D va := ⟨k.h, k.f, fun z => k.n (own_wipe z)⟩
end
section
variable {K : PySem.W.Frag} {T : Tab} {W : WX} {F H F3 H3 : Hp} {σ σ2 : L2.St} {ε ε3 : En} {D : Addr} {va : List V} {vs vs1 tgs tgs1 : List Nat} {gg gg1 : DL.D → En → Option En} {ft ft1 : En → O Bool} {fe : En → O R}
/-- the inner turns -/
theorem lc_in {fin : O (List DL.D) → O R} {S : R → En → Hp → Hp → Prop} {J1 : It} {ds1 acc : List DL.D} {n : Nat} {Nx : Hp → Prop} (hb : ¬ Po K T W F H σ ε (fin .bad) S) (htg : ∀ j ∈ tgs1, j ∈ vs1)
    (k3 : Ok K T F3 H3 σ2 ε3) (x3 : Ext F H σ ε F3 H3 σ2 ε3) (dk : DkL F3 H3 σ2 ε3 D va) (hD0 : H D = none) (ra : Rps K T F3 acc va) (la : acc.length ≤ n) (hn : n + ds1.length ≤ 1000000) (yj : YJ K T F3 J1 ds1)
    (p : Po K T W F H σ ε (fin (lcLoop gg1 ft1 fe vs1 ds1 (wipeE ε3 vs1) acc)) S)
    (hst : ∀ F' H' ε' acc' va', Ok K T F' H' (L2.wipe σ2 vs1) ε' → Ext F H σ ε F' H' (L2.wipe σ2 vs1) ε' → Same F3 F' → DkL F' H' (L2.wipe σ2 vs1) ε' D va' → Rps K T F' acc' va' → acc'.length ≤ n + ds1.length → Po K T W F H σ ε (fin (.ok acc' ε')) S → Nx H') :
    ∃ W1 : Nat → Nat → Hp → Prop, (∃ m, W1 0 m H3) ∧ ∀ j k H, W1 j k H →
      (J1.stop j H ∧ Nx H) ∨ (J1.go j H ∧ ∃ Nx1 : Hp → Prop, (∀ H', Nx1 H' → ∃ k', k' < k ∧ W1 (j + 1) k' H') ∧ ∀ x H', J1.yld j H x H' → tDG K T tgs1 gg1 x (L2.wipe σ2 vs1) H' fun σ3 H5 => L2.wipe σ3 vs1 = L2.wipe σ2 vs1 ∧ tDT K T W0 ft1 σ3 H5 fun b H6 =>
        if b = true then tD K T W0 fe σ3 H6 fun y H7 => ∃ acc, H7 D = some (.lst acc) ∧ acc.length < sizeLine ∧ Nx1 (upd H7 D (.lst (acc ++ [y]))) else Nx1 H6) := by
  refine ⟨fun j m H2 => m = ds1.length - j ∧ j ≤ ds1.length ∧ ∃ F2 ε2 acc va, Ok K T F2 H2 (L2.wipe σ2 vs1) ε2 ∧ Ext F H σ ε F2 H2 (L2.wipe σ2 vs1) ε2 ∧ Same F3 F2 ∧ DkL F2 H2 (L2.wipe σ2 vs1) ε2 D va ∧ Rps K T F2 acc va ∧ acc.length ≤ n + j ∧
    Po K T W F H σ ε (fin (lcLoop gg1 ft1 fe vs1 (ds1.drop j) ε2 acc)) S, ⟨ds1.length, by simp, Nat.zero_le _, F3, wipeE ε3 vs1, acc, va, ok_wipe k3, x3.wipe, Same.refl _, dk.wipe, ra, la, p⟩, ?_⟩
  rintro i m H2 ⟨rfl, hi, F2, ε2, acc, vacc, k2, x2, s2, d2, ra, la, p2⟩
  obtain ⟨y1, y2⟩ := yj F2 H2 s2 k2.sub
  by_cases hlt : i < ds1.length
  · right
    obtain ⟨go, y1⟩ := y1 i hlt
    refine ⟨go, fun H3 => ∃ F2 ε2 acc va, Ok K T F2 H3 (L2.wipe σ2 vs1) ε2 ∧ Ext F H σ ε F2 H3 (L2.wipe σ2 vs1) ε2 ∧ Same F3 F2 ∧ DkL F2 H3 (L2.wipe σ2 vs1) ε2 D va ∧ Rps K T F2 acc va ∧ acc.length ≤ n + (i + 1) ∧
      Po K T W F H σ ε (fin (lcLoop gg1 ft1 fe vs1 (ds1.drop (i + 1)) ε2 acc)) S, fun H' ⟨F2, ε2, z⟩ => ⟨ds1.length - (i + 1), by omega, rfl, hlt, F2, ε2, z⟩, fun x H3' hy => ?_⟩
    obtain ⟨F4, d, s3, s4, s5, fr, ed, rd⟩ := y1 x H3' hy
    have hdrop : ds1.drop i = d :: ds1.drop (i + 1) := by
      rw [List.drop_eq_getElem_cons hlt]
      congr 1
      rw [List.getElem?_eq_getElem hlt] at ed
      exact Option.some.inj ed
    rw [hdrop] at p2
    unfold lcLoop at p2
    cases e3 : gg1 d ε2 with
    | none => simp only [e3] at p2; exact absurd p2 hb
    | some ε4 =>
      simp only [e3] at p2
      have k4 := ok_grow k2 s3 s4 s5 fr
      have x4 := x2.grow s3 s5 fr
      have d4 := d2.grow s5 fr
      refine ⟨F4, ε2, d, ε4, k4, rd, e3, fun F5 H5 σ5 k5 x5 hj hl5 => ?_⟩
      have hw : L2.wipe σ5 vs1 = L2.wipe σ2 vs1 := wipe_eq (by rw [hl5, wipe_length]) fun j hjv => hj j fun z => hjv (htg j z)
      refine ⟨hw, F5, ε4, k5, ?_⟩
      have x6 := x4.trans x5
      have d5 := d4.ext x5
      cases e4 : ft1 ε4 with
      | bad => simp only [e4] at p2; exact absurd p2 hb
      | exn c ε5 => simp only [e4] at p2; exact absurd p2 hb
      | ok b ε5 =>
        intro F6 H6 k6 x7
        have x8 := x6.trans x7
        have d6 := d5.ext x7
        have r36 : Same F2 F6 := s3.trans (x5.fs.trans x7.fs)
        cases b with
        | false =>
          simp only [e4] at p2
          show _
          refine ⟨F6, wipeE ε5 vs1, acc, vacc, ?_, ?_, s2.trans r36, ?_, Rps.mono r36 _ _ ra, Nat.le_succ_of_le la, p2⟩
          · rw [← hw]; exact ok_wipe k6
          · rw [← hw]; exact x8.wipe
          · rw [← hw]; exact d6.wipe
        | true =>
          simp only [e4] at p2
          refine ⟨F6, ε5, k6, ?_⟩
          cases e5 : fe ε5 with
          | bad => simp only [e5] at p2; exact absurd p2 hb
          | exn c ε6 => simp only [e5] at p2; exact absurd p2 hb
          | ok r ε6 =>
            simp only [e5] at p2
            intro F7 H7 k7 x9 v hv hnv
            cases e6 : frz ε6 r with
            | none => simp only [e6] at p2; exact absurd p2 hb
            | some z =>
              obtain ⟨y, ε7⟩ := z
              simp only [e6] at p2
              have x10 := x8.trans x9
              have d7 := d6.ext x9
              obtain ⟨F8, k8, x11, r8, s8, f8, o8⟩ := frz_ok x10 k7 hv (fun a ha => x8.ht a (hnv a ha)) e6
              have n8 : ¬ OwnAt σ5 ε7 D := fun z => d7.n (o8 D z)
              have f9 : F8 D = none := by
                cases h : F8 D with
                | none => rfl
                | some u =>
                  rcases f8 D (by rw [h]; simp) with z | z | z
                  · exact absurd d7.f z
                  · have := hnv D z
                    rw [d6.h] at this; cases this
                  · exact absurd z d7.n
              have lacc : vacc.length = acc.length := ra.length
              have s28 : Same F2 F8 := r36.trans (x9.fs.trans s8)
              refine ⟨vacc, d7.h, line1M' (by omega), F8, wipeE ε7 vs1, acc ++ [y], vacc ++ [v], ?_, ?_, s2.trans s28, ?_, (Rps.mono s28 _ _ ra).append (Rps.one r8), ?_, p2⟩
              · rw [← hw]; exact ok_wipe (ok_upd k8 f9 n8)
              · rw [← hw]; exact (x11.upd hD0).wipe
              · rw [← hw]; exact ⟨upd_same, f9, fun z => n8 (own_wipe z)⟩
              · rw [List.length_append, List.length_singleton]; omega
  · left
    have ei : i = ds1.length := by omega
    subst ei
    rw [List.drop_length] at p2
    exact ⟨y2, hst F2 H2 ε2 acc vacc k2 x2 s2 d2 ra la p2⟩
def lcNext (k : List DL.D → En → O (List DL.D)) : O (List DL.D) → O (List DL.D)
  | .ok a ε => k a ε
  | _ => .bad
def lc2Loop (gg : DL.D → En → Option En) (ft : En → O Bool) (fi1 : En → O (List DL.D)) (gg1 : DL.D → En → Option En) (ft1 : En → O Bool) (fe : En → O R) (vs vs1 : List Nat) : List DL.D → En → List DL.D → O (List DL.D)
  | [], ε, acc => .ok acc ε
  | d :: ds, ε, acc => match gg d ε with
    | some ε1 => match ft ε1 with
      | .ok true ε2 => match fi1 ε2 with
        | .ok ds1 ε3 => if ds1.length ≤ 1000 then lcNext (fun acc' ε4 => lc2Loop gg ft fi1 gg1 ft1 fe vs vs1 ds (wipeE ε4 vs) acc') (lcLoop gg1 ft1 fe vs1 ds1 (wipeE ε3 vs1) acc) else .bad
        | _ => .bad
      | .ok false ε2 => lc2Loop gg ft fi1 gg1 ft1 fe vs vs1 ds (wipeE ε2 vs) acc
      | _ => .bad
    | none => .bad
def vLC2 (gg : DL.D → En → Option En) (ft : En → O Bool) (fi1 : En → O (List DL.D)) (gg1 : DL.D → En → Option En) (ft1 : En → O Bool) (fe : En → O R) (vs vs1 : List Nat) (ds : List DL.D) (ε : En) : O R :=
  if ds.length ≤ 1000 then (lc2Loop gg ft fi1 gg1 ft1 fe vs vs1 ds (wipeE ε vs) []).bind fun acc ε2 => .ok (.new (.lst acc)) ε2 else .bad
def dLC2 (fi : En → O (List DL.D)) (gg : DL.D → En → Option En) (ft : En → O Bool) (fi1 : En → O (List DL.D)) (gg1 : DL.D → En → Option En) (ft1 : En → O Bool) (fe : En → O R) (vs vs1 : List Nat) : En → O R := fun ε => (fi ε).bind fun ds ε1 => vLC2 gg ft fi1 gg1 ft1 fe vs vs1 ds ε1
theorem lc2_use {fi fi1 : En → O (List DL.D)} (htg : ∀ j ∈ tgs, j ∈ vs) (htg1 : ∀ j ∈ tgs1, j ∈ vs1) (hvs : ∀ j ∈ vs1, j ∈ vs) {σ : L2.St} {H : Hp} {Q : VK} (q : tD K T W (dLC2 fi gg ft fi1 gg1 ft1 fe vs vs1) σ H Q) :
    tLc2 (tDI K T W fi) (tDG K T tgs gg) (tDT K T W0 ft) (tDI K T W0 fi1) (tDG K T tgs1 gg1) (tDT K T W0 ft1) (tD K T W0 fe) vs vs1 σ H Q := by
  obtain ⟨F, ε, k, p⟩ := q
  refine ⟨F, ε, k, ?_⟩
  unfold dLC2 at p
  cases e : fi ε with
  | bad => rw [e] at p; exact p
  | exn c ε1 => rw [e] at p; exact p
  | ok ds ε1 =>
    rw [e] at p
    have p : Po K T W F H σ ε (vLC2 gg ft fi1 gg1 ft1 fe vs vs1 ds ε1) (SE K T H σ Q) := p
    intro F1 H1 k1 x1 J yj D hD
    unfold vLC2 at p
    by_cases hlen : ds.length ≤ 1000
    · rw [if_pos hlen] at p
      have hD0 : H D = none := x1.ht D hD
      refine ⟨fun i m H2 => m = ds.length - i ∧ i ≤ ds.length ∧ ∃ F2 ε2 acc va, Ok K T F2 H2 (L2.wipe σ vs) ε2 ∧ Ext F H σ ε F2 H2 (L2.wipe σ vs) ε2 ∧ Same F1 F2 ∧ Wiped vs ε2 ∧ DkL F2 H2 (L2.wipe σ vs) ε2 D va ∧ Rps K T F2 acc va ∧ acc.length ≤ i * 1000 ∧
        Po K T W F H σ ε ((lc2Loop gg ft fi1 gg1 ft1 fe vs vs1 (ds.drop i) ε2 acc).bind fun acc ε2 => (O.ok (R.new (DL.D.lst acc)) ε2 : O R)) (SE K T H σ Q), ⟨ds.length, by simp, Nat.zero_le _, F1, wipeE ε1 vs, [], [], ?_, ?_, Same.refl _, wiped_wipeE, ⟨upd_same, free_of k1 hD, ?_⟩, rps_nil.mpr rfl, Nat.zero_le _, p⟩, ?_⟩
      · exact ok_alloc (ok_wipe k1) hD
      · exact x1.wipe.alloc hD
      · exact not_own_fresh (ok_wipe k1) hD
      · rintro i m H2 ⟨rfl, hi, F2, ε2, acc, vacc, k2, x2, s2, w2, d2, ra, la, p2⟩
        obtain ⟨y1, y2⟩ := yj F2 H2 s2 k2.sub
        by_cases hlt : i < ds.length
        · right
          obtain ⟨go, y1⟩ := y1 i hlt
          refine ⟨go, fun H3 => ∃ F2 ε2 acc va, Ok K T F2 H3 (L2.wipe σ vs) ε2 ∧ Ext F H σ ε F2 H3 (L2.wipe σ vs) ε2 ∧ Same F1 F2 ∧ Wiped vs ε2 ∧ DkL F2 H3 (L2.wipe σ vs) ε2 D va ∧ Rps K T F2 acc va ∧ acc.length ≤ (i + 1) * 1000 ∧
            Po K T W F H σ ε ((lc2Loop gg ft fi1 gg1 ft1 fe vs vs1 (ds.drop (i + 1)) ε2 acc).bind fun acc ε2 => (O.ok (R.new (DL.D.lst acc)) ε2 : O R)) (SE K T H σ Q), fun H' ⟨F2, ε2, z⟩ => ⟨ds.length - (i + 1), by omega, rfl, hlt, F2, ε2, z⟩, fun x H3 hy => ?_⟩
          obtain ⟨F3, d, s3, s4, s5, fr, ed, rd⟩ := y1 x H3 hy
          have hdrop : ds.drop i = d :: ds.drop (i + 1) := by
            rw [List.drop_eq_getElem_cons hlt]
            congr 1
            rw [List.getElem?_eq_getElem hlt] at ed
            exact Option.some.inj ed
          rw [hdrop] at p2
          unfold lc2Loop at p2
          cases e3 : gg d ε2 with
          | none => simp only [e3, O.bind_bad] at p2; exact p2.elim
          | some ε3 =>
            simp only [e3] at p2
            have k3 := ok_grow k2 s3 s4 s5 fr
            have x3 := x2.grow s3 s5 fr
            have d3 := d2.grow s5 fr
            refine ⟨F3, ε2, d, ε3, k3, rd, e3, fun F4 H4 σ4 k4 x4 hj hl4 => ?_⟩
            have hw : L2.wipe σ4 vs = L2.wipe σ vs := by
              refine wipe_eq (by rw [hl4, wipe_length]) fun j hjv => hj j fun z => hjv (htg j z)
            refine ⟨hw, F4, ε3, k4, ?_⟩
            have x5 := x3.trans x4
            have d4 := d3.ext x4
            cases e4 : ft ε3 with
            | bad => simp only [e4, O.bind_bad] at p2; exact p2.elim
            | exn c ε4 => simp only [e4, O.bind_bad] at p2; exact p2.elim
            | ok b ε4 =>
              intro F5 H5 k5 x6
              have x7 := x5.trans x6
              have d5 := d4.ext x6
              have s15 : Same F1 F5 := s2.trans (s3.trans (x4.fs.trans x6.fs))
              have r35 : Same F2 F5 := s3.trans (x4.fs.trans x6.fs)
              cases b with
              | false =>
                simp only [e4] at p2
                show _
                refine ⟨F5, wipeE ε4 vs, acc, vacc, ?_, ?_, s15, wiped_wipeE, ?_, Rps.mono r35 _ _ ra, by omega, p2⟩
                · rw [← hw]; exact ok_wipe k5
                · rw [← hw]; exact x7.wipe
                · rw [← hw]; exact d5.wipe
              | true =>
                simp only [e4] at p2
                refine ⟨F5, ε4, k5, ?_⟩
                cases e5 : fi1 ε4 with
                | bad => simp only [e5, O.bind_bad] at p2; exact p2.elim
                | exn c ε5 => simp only [e5, O.bind_bad] at p2; exact p2.elim
                | ok ds1 ε5 =>
                  simp only [e5] at p2
                  intro F6 H6 k6 x8 J1 yj1
                  by_cases hl1 : ds1.length ≤ 1000
                  · rw [if_pos hl1] at p2
                    refine lc_in (fin := fun o => (lcNext (fun acc' ε4 => lc2Loop gg ft fi1 gg1 ft1 fe vs vs1 (ds.drop (i + 1)) (wipeE ε4 vs) acc') o).bind fun acc ε2 => (O.ok (R.new (DL.D.lst acc)) ε2 : O R)) (n := i * 1000)
                      (fun z => z.elim) htg1 k6 (x7.trans x8) (d5.ext x8) hD0 (Rps.mono (r35.trans x8.fs) _ _ ra) la (by omega) yj1 p2 fun F' H' ε' acc' va' k' x' s' dk' ra' la' p' => ?_
                    have hw2 : L2.wipe (L2.wipe σ4 vs1) vs = L2.wipe σ vs := by
                      rw [← hw]
                      exact wipe_eq (wipe_length σ4 vs1) fun j hj => by rw [wipe_out' fun z => hj (hvs j z), wipe_out' hj]
                    refine ⟨F', wipeE ε' vs, acc', va', ?_, ?_, s15.trans (x8.fs.trans s'), wiped_wipeE, ?_, ra', by omega, p'⟩
                    · rw [← hw2]; exact ok_wipe k'
                    · rw [← hw2]; exact x'.wipe
                    · rw [← hw2]; exact dk'.wipe
                  · rw [if_neg hl1] at p2; exact p2.elim
        · left
          have ei : i = ds.length := by omega
          subst ei
          rw [List.drop_length] at p2
          refine ⟨y2, ?_⟩
          have p2 : Po K T W F H σ ε (.ok (.new (.lst acc)) ε2) (SE K T H σ Q) := p2
          refine p2 F2 H2 (ok_unwipe k2 w2) (x2.unwipe w2) (.ref D) ⟨D, .lst vacc, rfl, d2.f, d2.h, ra, fun z => d2.n (own_unwipe w2 z)⟩ fun a ha => ?_
          have ea : a = D := by simpa [newA] using ha
          subst ea; exact hD0
    · rw [if_neg hlen] at p; exact p.elim
end
section
variable {X : Cx} {T : Tab} {W : WX} {elt tg iter tg1 iter1 : Expr} {ifs ifs1 : List Expr} {fe : En → O R} {ft ft1 : En → O Bool} {pos : Pos} {P tgs tgs1 : List Nat} {gg gg1 : D → En → Option En}
theorem de_lc2 {own : List (Str × Nat)} (vs1 : List Nat) {scope : Scope} {fi fi1 : En → O (List D)} (hc : X.calm = true) (hN : X.N.Nodup) (hi : DI X T W tg iter fi) (ok : BlkOk X.N X.env.scope scope own)
    (hg : ∀ (s : Shared) (H : Hp) (C : Addr) (cl : List (Str × Addr)) (fp : List Addr), DG (X.blk s H scope (compEnvC scope cl C X.env) fp) T tgs tg gg) (ht : ∀ (s : Shared) (H : Hp) (C : Addr) (cl : List (Str × Addr)) (fp : List Addr), DTs (X.blk s H scope (compEnvC scope cl C X.env) fp) T W0 ifs ft)
    (hi1 : ∀ (s : Shared) (H : Hp) (C : Addr) (cl : List (Str × Addr)) (fp : List Addr), DI (X.blk s H scope (compEnvC scope cl C X.env) fp) T W0 tg1 iter1 fi1)
    (hg1 : ∀ (s : Shared) (H : Hp) (C : Addr) (cl : List (Str × Addr)) (fp : List Addr), DG (X.blk s H scope (compEnvC scope cl C X.env) fp) T tgs1 tg1 gg1) (ht1 : ∀ (s : Shared) (H : Hp) (C : Addr) (cl : List (Str × Addr)) (fp : List Addr), DTs (X.blk s H scope (compEnvC scope cl C X.env) fp) T W0 ifs1 ft1)
    (he : ∀ (s : Shared) (H : Hp) (C : Addr) (cl : List (Str × Addr)) (fp : List Addr), DE (X.blk s H scope (compEnvC scope cl C X.env) fp) T W0 elt fe) (htg : ∀ j ∈ tgs, j ∈ own.map (·.2) := by decide) (htg1 : ∀ j ∈ tgs1, j ∈ vs1 := by decide) (hvs : ∀ j ∈ vs1, j ∈ own.map (·.2) := by decide)
    (hs : ∀ x, foldedSetIterable iter X.env x = pure x := by intro _; rfl) (hs1 : ∀ env x, foldedSetIterable iter1 env x = pure x := by intro _ _; rfl) :
    DE X T W (.ListComp elt [⟨tg, iter, ifs, 0⟩, ⟨tg1, iter1, ifs1, 0⟩] scope pos) (dLC2 fi gg ft fi1 gg1 ft1 fe (own.map (·.2)) vs1) :=
  PE.imp (pe_lc2 hc hN hi ok hvs hg ht hi1 hg1 ht1 he hs hs1) fun σ H Q q => lc2_use htg htg1 hvs q
end
end DL

/-! DL34: for a, b in sorted(a dict with pairs as keys) -/
namespace DL
open PySem PySem.Spec PyProof.Rows L2
def fK (q : Int × Int) : List Key := [Sum.inl q.1, Sum.inl q.2]
def uK : List Key → Int × Int
  | [.inl i, .inl j] => (i, j)
  | _ => (0, 0)
theorem uK_fK (q : Int × Int) : uK (fK q) = q := rfl
def cd2 (q : Int × Int) : Int := q.1 * 1000 + q.2
def dc2 (c : Int) : Int × Int := (c / 1000, c % 1000)
def bd2 (q : Int × Int) : Prop := (0 ≤ q.1 ∧ q.1 < 1000) ∧ 0 ≤ q.2 ∧ q.2 < 1000
theorem dc_cd {q : Int × Int} (h : bd2 q) : dc2 (cd2 q) = q := by
  obtain ⟨a, b⟩ := q
  obtain ⟨⟨h1, h2⟩, h3, h4⟩ := h
  simp only at h1 h2 h3 h4
  unfold dc2 cd2
  simp only [Prod.mk.injEq]
  constructor <;> omega
def srt2 (l : List (Int × Int)) : List (Int × Int) := (srt (l.map cd2)).map dc2
theorem srt2_of {l m : List (Int × Int)} (p : m.Perm l) (s : m.Pairwise fun a b => cd2 a ≤ cd2 b) (b : ∀ q ∈ m, bd2 q) : m = srt2 l := by
  unfold srt2
  rw [← srt_of (p.map cd2) (List.pairwise_map.mpr s), List.map_map]
  have : ∀ q ∈ m, (dc2 ∘ cd2) q = q := fun q hq => dc_cd (b q hq)
  rw [List.map_congr_left this, List.map_id']
def pr2 (ns : List Int) : Int × Int := (ns.headD 0, ns.tail.headD 0)
def adOf : Value → Addr
  | .ref b => b
  | _ => 0
def rSrtT : List V → Hp → VK → Prop := fun xs H Q => ∃ (a : Addr) (kvs : List (List Key × V)) (iss : List (Int × Int)), xs = [.ref a] ∧ Rd H a (.dT kvs) ∧ kvs.map (·.1) = iss.map fK ∧ iss.length < 64 ∧ (∀ q ∈ iss, bd2 q) ∧
  ∀ (L : List ((Int × Int) × Addr)) (p : Addr) (o : Obj), L.map (·.1) = srt2 iss → (∀ x ∈ L, H x.2 = some (.tup [.int x.1.1, .int x.1.2])) → H p = none → Q (.ref p) (upd H p (.frz o (.lst (L.map fun x => .ref x.2))))
section
variable {X : Cx}
theorem cr_srtT (hc : X.calm = true) : CallR X (.builtin "sorted") rSrtT := by
  intro pins s σ H xs us Q I r h
  obtain ⟨d, kvs, iss, rfl, hd, hks, h64, hbd, q⟩ := h
  obtain ⟨u, rfl, rx⟩ := r.one
  cases rx
  obtain ⟨z, hs, ks, pr, o, es, ep, ho, hx, hdt, he, hn⟩ := (show ObjOk X.prog X.w H s.heap d (.dT kvs) from hd.ok I.hok)
  have l1 : es.size = ks.length := size_of_entries he
  have l2 : kvs.length = ks.length := Paired.length pr
  have l3 : kvs.length = iss.length := by simpa using congrArg List.length hks
  have hk1 : ks.map (·.1) = iss.map fK := by
    rw [← hks]
    clear hks l1 l2 l3 he hn hdt z hd
    induction pr with
    | nil => rfl
    | cons h t ih => rw [List.map_cons, List.map_cons, ih, h.1]
  have hk2 : ∀ x ∈ ks, H x.2.1 = some (.tup (x.1.map kV)) := by
    clear hks l1 l2 l3 he hn hdt z hd hk1
    induction pr with
    | nil => intro x hx; exact nomatch hx
    | cons h t ih =>
      intro x hx
      rcases List.mem_cons.mp hx with e | hx
      · subst e; rw [← h.1]; exact h.2.1
      · exact ih x hx
  have hk3 : ∀ x ∈ ks, ∃ q ∈ iss, x.1 = fK q := fun x hx => by
    have : x.1 ∈ iss.map fK := by rw [← hk1]; exact List.mem_map_of_mem hx
    obtain ⟨q, hq, e⟩ := List.mem_map.mp this
    exact ⟨q, hq, e.symm⟩
  refine Calls.call_function_entry PyProof.Rows.kind_sorted PyProof.Rows.plain_sorted PyProof.Rows.entry_sorted (PyProof.Rows.args_sorted1 _) ?_
  unfold Builtin.«sorted»
  refine wpAny_bind (m := checkCount "sorted" 1 1 _) (wpAny_pure ?_)
  refine wpAny_bind (PySem.W.kdu_collect (A := X.A.in1) (kdl_raw hs hx hdt) (I.ok.hd hc) ho (by omega) fun h' tk acc hk it => ?_)
  have ea : acc.toList = ks.map fun x => Value.ref x.2.1 := by
    have hl : acc.toList.length = ks.length := by rw [Array.length_toList, it.1]; exact l1
    apply List.ext_getElem?
    intro j
    rw [List.getElem?_map]
    cases hj : acc.toList[j]? with
    | none =>
      have h1 := List.getElem?_eq_none_iff.mp hj
      rw [List.getElem?_eq_none (by omega)]
      all_goals rfl
    | some v =>
      obtain ⟨en, hen, hv⟩ := it.2 j v (by rw [← Array.getElem?_toList]; exact hj)
      have qe := entry_at he j
      rw [hen] at qe
      cases hb : ks[j]? with
      | none =>
        rw [hb] at qe
        exact nomatch (show some en = none from qe)
      | some b =>
        rw [hb] at qe
        have e2 : en = entryOfKey (tupleKind (mixKind X.prog X.w)) b := Option.some.inj qe
        rw [hv, e2]
        all_goals rfl
  have hal : acc.toList.length = iss.length := by rw [ea, List.length_map]; omega
  have I1 : Inv X pins σ H { s with heap := h', toks := tk } := I.kept hk
  refine wpAny_bind (wpAny_newList ?_ (by rw [hal, sizeLine_eq]; omega))
  have hoL : (h'.push (seqObj "list" acc.toList.toArray 0)).get? h'.objs.size = some (seqObj "list" acc.toList.toArray 0) := Heap.get?_push_size _ rfl
  generalize hHp : h'.push (seqObj "list" acc.toList.toArray 0) = hp at hoL
  have hkeep : ∀ b u, s.heap.get? b = some u → hp.get? b = some u := fun b u e => by rw [← hHp]; exact Heap.get?_push_of_some _ (hk b u e)
  have ht : ∀ x ∈ ks, TS.TupInts hp (.ref x.2.1) [(uK x.1).1, (uK x.1).2] := fun x hx => by
    obtain ⟨q, hq, e⟩ := hk3 x hx
    have h1 := hk2 x hx
    rw [e] at h1 ⊢
    obtain ⟨_, its, rv, ⟨ob, g1, g2, n, g3⟩⟩ := (show ObjOk X.prog X.w H s.heap x.2.1 (.tup ((fK q).map kV)) from I.hok _ _ h1)
    refine ⟨x.2.1, its.toArray, rfl, ⟨ob, hkeep _ _ g1, g2, n, g3⟩, ?_⟩
    have this : Vals ([q.1, q.2].map V.int) its := rv
    show IntsAre its.toArray.toList [q.1, q.2]
    simpa using this.ints
  have hti : ∀ x ∈ ks, pr2 (TS.intsOf hp (.ref x.2.1)) = uK x.1 := fun x hx => by rw [(ht x hx).ints]; rfl
  have hbx : ∀ x ∈ ks, bd2 (uK x.1) := fun x hx => by
    obtain ⟨q, hq, e⟩ := hk3 x hx
    rw [e, uK_fK]; exact hbd q hq
  have hcd : ∀ x ∈ ks, TS.code 1000 (TS.intsOf hp (.ref x.2.1)) = cd2 (uK x.1) := fun x hx => by
    rw [(ht x hx).ints]
    unfold TS.code TS.code TS.code cd2
    simp
  show wpAny _ _ _ _ _ { s with heap := hp, toks := tk }
  have hsz : h'.objs.size < hp.objs.size := Heap.lt_size hoL
  refine wpAny_bind (wpAny_holding (wpAny_call_entry PyProof.Rows.slot_list_sort ⟨_, hoL, rfl⟩ PyProof.Rows.entry_list_sort
    (TS.sort_tups (s := { s with heap := hp, toks := tk }) (d := 2) (B := 1000) hoL (by rw [hal]; exact h64) (by decide) (fun v hv => ?_) (fun v => TS.code 1000 (TS.intsOf hp v)) (fun v hv ns t => by rw [t.ints]) fun out g1 g2 => ⟨_, rfl, ?_⟩) (PyProof.Rows.args_list_sort _)))
  · rw [ea] at hv
    obtain ⟨x, hx, rfl⟩ := List.mem_map.mp hv
    refine ⟨_, ht x hx, rfl, ?_⟩
    obtain ⟨b1, b2⟩ := hbx x hx
    intro m hm
    rcases List.mem_cons.mp hm with e | hm
    · rw [e]; exact b1
    · rcases List.mem_cons.mp hm with e | hm
      · rw [e]; exact b2
      · exact nomatch hm
  · obtain ⟨e', he'⟩ := PyProof.Rows.sortedHeap_at (vs := acc.toList) (out := out) hoL
    have hmem : ∀ v ∈ out.toList, ∃ x ∈ ks, v = .ref x.2.1 := fun v hv => by
      have : v ∈ acc.toList := g1.mem_iff.mp hv
      rw [ea] at this
      obtain ⟨x, hx, e⟩ := List.mem_map.mp this
      exact ⟨x, hx, e.symm⟩
    let gL : Value → (Int × Int) × Addr := fun v => (pr2 (TS.intsOf hp v), adOf v)
    have hL1 : (out.toList.map gL).map (·.1) = srt2 iss := by
      refine srt2_of ?_ ?_ ?_
      · rw [List.map_map]
        refine (g1.map _).trans (List.Perm.of_eq ?_)
        rw [ea, List.map_map]
        have e1 : ks.map ((Prod.fst ∘ gL) ∘ fun x => Value.ref x.2.1) = ks.map (uK ∘ fun x => x.1) := List.map_congr_left fun x hx => hti x hx
        rw [e1, ← List.map_map, hk1, List.map_map]
        have e2 : iss.map (uK ∘ fK) = iss.map id := List.map_congr_left fun q _ => uK_fK q
        rw [e2, List.map_id]
      · rw [List.map_map, List.pairwise_map]
        refine List.Pairwise.imp_of_mem (fun {u v} hu hv hle => ?_) g2
        obtain ⟨x, hx, rfl⟩ := hmem u hu
        obtain ⟨y, hy, rfl⟩ := hmem v hv
        have hle : TS.code 1000 (TS.intsOf hp (.ref x.2.1)) ≤ TS.code 1000 (TS.intsOf hp (.ref y.2.1)) := hle
        rw [hcd x hx, hcd y hy] at hle
        show cd2 (pr2 (TS.intsOf hp (.ref x.2.1))) ≤ cd2 (pr2 (TS.intsOf hp (.ref y.2.1)))
        rw [hti x hx, hti y hy]
        exact hle
      · intro q hq
        rw [List.map_map] at hq
        obtain ⟨v, hv, rfl⟩ := List.mem_map.mp hq
        obtain ⟨x, hx, rfl⟩ := hmem v hv
        show bd2 (pr2 (TS.intsOf hp (.ref x.2.1)))
        rw [hti x hx]; exact hbx x hx
    have hL2 : ∀ x ∈ out.toList.map gL, H x.2 = some (.tup [.int x.1.1, .int x.1.2]) := fun y hy => by
      obtain ⟨v, hv, rfl⟩ := List.mem_map.mp hy
      obtain ⟨x, hx, rfl⟩ := hmem v hv
      show H x.2.1 = some (.tup [.int (pr2 (TS.intsOf hp (.ref x.2.1))).1, .int (pr2 (TS.intsOf hp (.ref x.2.1))).2])
      rw [hti x hx]
      obtain ⟨q, hq, e⟩ := hk3 x hx
      have := hk2 x hx
      rw [e] at this ⊢
      exact this
    have hL3 : Vals ((out.toList.map gL).map fun x => V.ref x.2) out.toList := by
      rw [List.map_map]
      have e1 : out.toList = (out.toList.map adOf).map Value.ref := by
        rw [List.map_map]
        have : ∀ v ∈ out.toList, (Value.ref ∘ adOf) v = id v := fun v hv => by
          obtain ⟨x, hx, rfl⟩ := hmem v hv
          rfl
        rw [List.map_congr_left this, List.map_id]
      have e2 : out.toList.map ((fun x => V.ref x.2) ∘ gL) = (out.toList.map adOf).map V.ref := by rw [List.map_map]; rfl
      rw [e2]
      have := vals_refs (out.toList.map adOf)
      rw [← e1] at this
      exact this
    have hlen : ((out.toList.map gL).map fun x => V.ref x.2).length ≤ sizeLine := by
      rw [List.length_map, List.length_map, g1.length_eq, hal, sizeLine_eq]; omega
    refine wpAny_pure ⟨_, rfl, .ref h'.objs.size, _, I1.laid (t' := tk) (o := .frz (seqObj "list" out e') (.lst ((out.toList.map gL).map fun x => V.ref x.2))) (fun b u e => ?_) (Nat.le_refl _) ?_, rfl, q _ h'.objs.size (seqObj "list" out e') hL1 hL2 (I1.hok.fresh (Nat.le_refl _))⟩
    · have hb : b < h'.objs.size := Heap.lt_size e
      rw [PyProof.Rows.sortedHeap_old (Nat.ne_of_lt hb) (Nat.lt_trans hb hsz)]
      rw [← hHp]; exact Heap.get?_push_of_some _ e
    · exact ⟨he', hlen, out.toList, e', hL3, by rw [Array.toArray_toList]; exact he'⟩
end
def toPP : List (List Key) → Option (List (Int × Int))
  | [] => some []
  | [.inl i, .inl j] :: r => (toPP r).map ((i, j) :: ·)
  | _ :: _ => none
theorem toPP_eq : ∀ {ks : List (List Key)} {l : List (Int × Int)}, toPP ks = some l → ks = l.map fK
  | [], l, e => by cases e; rfl
  | k :: r, l, e => by
    unfold toPP at e
    split at e
    · rename_i h; cases h
    · rename_i i j r' h
      cases h
      cases e1 : toPP r with
      | none => rw [e1] at e; cases e
      | some m => rw [e1] at e; cases e; rw [toPP_eq e1]; rfl
    · cases e
def bdB (l : List (Int × Int)) : Bool := l.all fun q => decide (0 ≤ q.1) && decide (q.1 < 1000) && decide (0 ≤ q.2) && decide (q.2 < 1000)
theorem bdB_of {l : List (Int × Int)} (h : bdB l = true) : ∀ q ∈ l, bd2 q := fun q hq => by
  have := List.all_eq_true.mp h q hq
  simp only [Bool.and_eq_true, decide_eq_true_eq] at this
  exact ⟨⟨this.1.1.1, this.1.1.2⟩, this.1.2, this.2⟩
def pD (q : Int × Int) : List D := [.int q.1, .int q.2]
def pLoop (gs : List D → En → Option En) (b : En → O Fl) : List (Int × Int) → En → O Fl
  | [], ε => .ok .nx ε
  | q :: r, ε => match gs (pD q) ε with
    | some ε1 => (b ε1).bind (vTurn (pLoop gs b r))
    | none => .bad
def vForST (gs : List D → En → Option En) (b : En → O Fl) (ε : En) (rs : List R) : O Fl :=
  match ress ε rs with
  | some [.dT ks _] => match toPP ks with
    | some l => if (decide (l.length < 64) && bdB l) = true then pLoop gs b (srt2 l) ε else .bad
    | none => .bad
  | _ => .bad
def dForST (fs : En → O (List R)) (gs : List D → En → Option En) (b : En → O Fl) : En → O Fl := fun ε => (fs ε).bind fun rs ε1 => vForST gs b ε1 rs
section
variable {X : Cx} {T : Tab} {W : WX} {e : Expr} {es : List Expr} {g : En → O Fl} {fs : En → O (List R)} {pos p : Pos} {P tgs : List Nat}
theorem key_not_own {K : PySem.W.Frag} {F H : Hp} {σ : L2.St} {ε : En} (k : Ok K T F H σ ε) {b : Addr} {vs : List V} (h : H b = some (.tup vs)) : ¬ OwnAt σ ε b := fun ⟨i, d, e1, e2⟩ => by
  obtain ⟨a, o, h1, h2, h3, h4⟩ := k.own i d e1
  rw [e2] at h1
  cases h1
  rw [h] at h3
  cases h3
  cases d <;> exact h4.elim
theorem ds_forST {kk : Nat} {tpos fpos : Pos} {body : List Stmt} {gs : List D → En → Option En} (hp : PassesOwn (model X.prog X.w) X.A X.env X.xe) (hc : X.calm = true) (gl : Gl X "sorted") (hm : X.mg "sorted" = none) (ha : DA X T W [e] fs) (hg : DGs X T tgs es gs) (hb : DSs X T W P body g) (hn : (assignEach es X.env).length = 2 := by rfl) (hst : (assignEach es X.env).findIdx? (·.1) = none := by rfl) (hP : ∀ j ∈ P, j ∉ tgs := by decide)
    (he : starEach [e] X.env = (false, eval e X.env) :: starEach [] X.env := by rfl) (hpl : (backTo p (starEach [] X.env)).any (·.1) = false := by rfl) (hs : ∀ x, foldedSetIterable (.Call (.Name "sorted" pos) [e] [] p) X.env x = pure x := by intro _; rfl) :
    DS X T W P (.For (.Tuple es kk tpos) (.Call (.Name "sorted" pos) [e] [] p) body [] fpos) (dForST fs gs g) := by
  refine PS.imp (ps_for hp hc (pi_list (pe_callB (cr_srtT hc) gl hm (by decide +kernel) ha (by decide) (by decide) he hpl)) (pg_tup hc hg hn hst) hb hs) fun D σ H q => ?_
  obtain ⟨F, ε, k, q⟩ := q
  show tDA X.K T W fs σ H _
  refine tDA_useS (g := fun rs ε1 => vForST gs g ε1 rs) (S := SF X.K T H D) k Ext.refl (fun _ _ => rfl) q fun vs F1 H1 rs ε1 k1 _ x1 q1 n1 nd p1 => ?_
  unfold vForST at p1
  split at p1
  · rename_i ks ds e1
    split at p1
    · rename_i l e2
      split at p1
      · rename_i hl
        rw [Bool.and_eq_true, decide_eq_true_eq] at hl
        obtain ⟨v, rfl, b, us, rfl, hd, hlen, hr⟩ := rpis1 (ress_rpis k1 q1 e1)
        have hl2 : ks.length = us.length := by rw [hr.length]; exact hlen
        refine ⟨b, _, l, rfl, hd, by rw [← toPP_eq e2]; exact List.map_fst_zip (by omega), hl.1, bdB_of hl.2, fun L a o hL hH hna => ?_⟩
        have k2 : Ok X.K T (upd F1 a (.frz o (.lst (L.map fun x => .ref x.2)))) (upd H1 a (.frz o (.lst (L.map fun x => .ref x.2)))) σ ε1 := ok_allocF k1 hna
        have x2 : Ext F H σ ε (upd F1 a (.frz o (.lst (L.map fun x => .ref x.2)))) (upd H1 a (.frz o (.lst (L.map fun x => .ref x.2)))) σ ε1 := x1.allocF k1 hna
        have hf2 : (upd F1 a (.frz o (.lst (L.map fun x => V.ref x.2)))) a = some (.frz o (.lst (L.map fun x => .ref x.2))) := upd_same
        have hH2 : ∀ x ∈ L, (upd H1 a (.frz o (.lst (L.map fun x => V.ref x.2)))) x.2 = some (.tup [.int x.1.1, .int x.1.2]) := fun x hx => by
          have := hH x hx
          rw [upd_ne (ne_of_none this hna)]; exact this
        generalize upd F1 a (.frz o (.lst (L.map fun x => V.ref x.2))) = F2 at k2 x2 hf2
        generalize upd H1 a (.frz o (.lst (L.map fun x => V.ref x.2))) = H2 at k2 x2 hH2
        have sq : ∀ {F3 H3 : Hp}, Same F2 F3 → Same F3 H3 → SqL X.K H3 a (L.map fun x => .ref x.2) := fun s1 s2 => .inl (.inr ⟨o, s2 _ _ (s1 _ _ hf2)⟩)
        rw [← hL] at p1
        refine ⟨a, rfl, ⟨_, sq (Same.refl _) k2.sub⟩, ?_⟩
        refine ⟨fun i m σ2 H3 => m = L.length - i ∧ i ≤ L.length ∧ ∃ F3 ε2, Ok X.K T F3 H3 σ2 ε2 ∧ Ext F2 H2 σ ε1 F3 H3 σ2 ε2 ∧ (∀ j ∈ P, σ2[j]? = σ[j]?) ∧ Ps X.K T W P F H σ ε (pLoop gs g ((L.map (·.1)).drop i) ε2) (SF X.K T H D), ⟨L.length, by simp, Nat.zero_le _, F2, ε1, k2, Ext.refl, fun _ _ => rfl, by rw [List.drop_zero]; exact p1⟩, ?_⟩
        rintro i m σ2 H3 ⟨rfl, hi', F3, ε2, k3, x3, hP2, p2⟩
        have sq3 := sq x3.fs k3.sub
        by_cases hlt : i < L.length
        · right
          have hgi : (L.map fun x => V.ref x.2)[i]? = some (.ref L[i].2) := by rw [List.getElem?_map, List.getElem?_eq_getElem hlt]; rfl
          refine ⟨⟨_, _, sq3, hgi⟩, fun σ3 H4 => ∃ F4 ε3, Ok X.K T F4 H4 σ3 ε3 ∧ Ext F2 H2 σ ε1 F4 H4 σ3 ε3 ∧ (∀ j ∈ P, σ3[j]? = σ[j]?) ∧ Ps X.K T W P F H σ ε (pLoop gs g ((L.map (·.1)).drop (i + 1)) ε3) (SF X.K T H D), fun σ' H' ⟨F3, ε3, z⟩ => ⟨L.length - (i + 1), by omega, rfl, hlt, F3, ε3, z⟩, fun x H4 hy => ?_⟩
          obtain ⟨rfl, hy⟩ := hy
          have hy := hy _ sq3
          rw [hgi] at hy
          cases hy
          have hmem : L[i] ∈ L := List.getElem_mem hlt
          have ht : H4 L[i].2 = some (.tup [.int L[i].1.1, .int L[i].1.2]) := x3.hk _ _ (hH2 _ hmem) (key_not_own k2 (hH2 _ hmem))
          have hdrop : (L.map (·.1)).drop i = L[i].1 :: (L.map (·.1)).drop (i + 1) := by
            rw [List.drop_eq_getElem_cons (by rw [List.length_map]; exact hlt), List.getElem_map]
          rw [hdrop] at p2
          unfold pLoop at p2
          cases e3 : gs (pD L[i].1) ε2 with
          | none => rw [e3] at p2; exact p2.elim
          | some ε3 =>
            rw [e3] at p2
            have p2 : Ps X.K T W P F H σ ε ((g ε3).bind (vTurn (pLoop gs g ((L.map (·.1)).drop (i + 1))))) (SF X.K T H D) := p2
            refine ⟨_, _, rfl, .inl (.inl ht), rfl, F3, ε2, pD L[i].1, ε3, k3, rps_cons.mpr ⟨_, _, rfl, rp_int.mpr rfl, rps_cons.mpr ⟨_, _, rfl, rp_int.mpr rfl, rps_nil.mpr rfl⟩⟩, e3, fun F4 H5 σ4 k4 x4 hj _ => ?_⟩
            have x5 := x3.trans x4
            have hP4 : ∀ j ∈ P, σ4[j]? = σ[j]? := fun j hj' => (hj j (hP j hj')).trans (hP2 j hj')
            refine ⟨F4, ε3, k4, ?_⟩
            cases e4 : g ε3 with
            | bad => rw [e4] at p2; exact p2
            | exn c ε4 =>
              rw [e4] at p2
              exact fun F5 H5 σ5 k5 x6 hP5 => p2 F5 H5 σ5 k5 (x2.trans (x5.trans x6)) fun j hj => (hP5 j hj).trans (hP4 j hj)
            | ok fl ε4 =>
              rw [e4] at p2
              intro F5 H6 σ5 k5 x6 hP5
              have hP6 : ∀ j ∈ P, σ5[j]? = σ[j]? := fun j hj => (hP5 j hj).trans (hP4 j hj)
              cases fl with
              | nx => exact ⟨F5, ε4, k5, x5.trans x6, hP6, p2⟩
              | ct => exact ⟨F5, ε4, k5, x5.trans x6, hP6, p2⟩
              | bk => exact p2 F5 H6 σ5 k5 (x2.trans (x5.trans x6)) hP6
              | rt r => exact fun v hv hn => p2 F5 H6 σ5 k5 (x2.trans (x5.trans x6)) hP6 v hv fun a ha => (x2.trans x5).ht a (hn a ha)
        · left
          have ei : i = L.length := by omega
          subst ei
          rw [List.drop_of_length_le (by rw [List.length_map]; exact Nat.le_refl _)] at p2
          exact ⟨⟨_, sq3, by rw [List.length_map]; exact Nat.le_refl _⟩, p2 F3 H3 σ2 k3 (x2.trans x3) hP2⟩
      · exact p1.elim
    · exact p1.elim
  · exact p1.elim
end
end DL

/-! DL35: a short tuple, some times -/
namespace DL
open PySem PySem.Spec PyProof.Rows L2
def rRepN (K : PySem.W.Frag) : R2 := fun x y H Q => ∃ l k xs, x = .ref l ∧ y = .int k ∧ SqT K H l xs ∧ 1 ≤ xs.length ∧ xs.length ≤ 64 ∧ 2 ≤ k ∧ k ≤ 64 ∧ NewT Q H (List.replicate k.toNat xs).flatten
theorem op_repN {X : Cx} : OpR X (binaryOp .Mult) (rRepN X.K) := by
  intro pins s σ H x y v u Q I rx ry h
  obtain ⟨l, k, xs, rfl, rfl, hT, n1, n2, k1, k2, q⟩ := h
  cases rx
  obtain ⟨t, rfl⟩ := ry
  obtain ⟨its, r, ⟨⟨cls, dd, data, sl⟩, ho, hc, n, hd⟩, hs⟩ := I.tuple hT
  simp only at hc hd
  subst hc hd
  have hle : its.toArray.size = xs.length := by rw [List.size_toArray]; exact r.length.symm
  have he : its.toArray.isEmpty = false := by
    cases its with
    | nil => rw [List.size_toArray, List.length_nil] at hle; omega
    | cons a b => rfl
  have kp : k.toNat * xs.length ≤ 64 * 64 := Nat.mul_le_mul (by omega) n2
  have zp : ((its.toArray.size : Nat) : Int) * k ≤ 64 * 64 := by
    rw [hle]
    have := Int.ofNat_le.mpr kp
    rw [Int.natCast_mul, Int.toNat_of_nonneg (by omega)] at this
    rw [Int.mul_comm]
    exact this
  have fl : (List.replicate k.toNat its).flatten.length ≤ sizeLine := by
    rw [PyProof.Rows.lm_len_rep_flat, ← r.length, sizeLine_eq]; omega
  have big : (2 : Int) ^ 63 = 9223372036854775808 := by decide
  refine wpAny_binaryOp_repeat_ref (T := "tuple") (U := "int") (by decide) ⟨_, ho, rfl⟩ (fun s' => typeIs_int s' k t) noFill_tuple_mul F.fills_int_mul F.slot_int_rmul repeat_tuple F.slot_int_index.lookup
    (call_meets F.slot_int_rmul (typeIs_int s k t) F.entry_int_rmul (F.args_int_rmul_2 _ _) (int_rmul_tuple k t l its.toArray n dd sl)
      ⟨ho, rfl, ⟨_, ho, rfl⟩, call_meets F.slot_tuple_mul ⟨_, ho, rfl⟩ F.entry_tuple_mul (F.args_tuple_mul_2 _ _) (tuple_mulW l its.toArray n dd sl k t ?_ ?_ ?_ ?_ ?_ (by rw [size_rep, List.size_toArray]; exact fl)) ⟨ho, ?_⟩⟩)
  · rw [big]; simp only [Bool.or_eq_false_iff, decide_eq_false_iff_not]; omega
  · rw [he, Bool.false_or]; exact beq_eq_false_iff_ne.mpr (by omega)
  · rw [he, Bool.or_false]; exact decide_eq_false (by omega)
  · rw [big]; omega
  · unfold Builtin.Tuple.tupleTooMany
    rw [sizeLine_eq]
    exact decide_eq_false (by omega)
  · rw [size_rep]
    exact ⟨.ref s.heap.objs.size, _, I.laid (t' := s.toks) (fun b ob q => Heap.get?_push_of_some _ q) (Nat.le_refl _) (tup_new (Heap.get?_push_size _ rfl) rfl (r.rep k.toNat) (by rw [PyProof.Rows.lm_len_rep_flat, sizeLine_eq]; omega)), rfl, q _ _ (I.hok.fresh (Nat.le_refl _)) rfl⟩
def gRepT : D → D → Option An
  | .tup ds, .int k => if (decide (1 ≤ ds.length) && decide (ds.length ≤ 64) && decide (2 ≤ k) && decide (k ≤ 64)) = true then some (.nt (rep k ds)) else none
  | _, _ => none
theorem opA_repT {K : PySem.W.Frag} {T : Tab} : OpA K T gRepT (rRepN K) := fun d1 d2 a x y F H Q e r1 r2 s q => by
  unfold gRepT at e
  split at e
  · rename_i ds k
    split at e
    · rename_i h
      cases e
      simp only [Bool.and_eq_true, decide_eq_true_eq] at h
      obtain ⟨l, vs, rfl, hq, hr⟩ := r1
      have hl : vs.length = ds.length := hr.length
      exact ⟨l, k, vs, rfl, r2, (hq.mono s).t, by omega, by omega, h.1.2, h.2, fun p o hp ho => q.1 p o _ hp ho (rps_rep hr _)⟩
    · cases e
  · cases e
section
variable {X : Cx} {T : Tab} {W : WX} {a b : Expr} {fa fb : En → O R} {pos : Pos}
theorem de_mulT (ha : DE X T W a fa) (hb : DE X T W b fb) : DE X T W (.BinOp a .Mult b pos) (dOpA gRepT fa fb) := de_opA op_repN opA_repT ha hb
end
end DL

/-! DL36: a, b = x, y where a name is a cell -/
namespace DL
open PySem PySem.Spec PyProof.Rows L2
section
variable {X : Cx} {T : Tab} {W : WX} {a b : Expr} {fs : En → O (List R)} {pos : Pos} {P : List Nat}
theorem ds_parC {i j : Nat} {x y : Str} {px py pt : Pos} {kt k2 pt2} (hc : X.calm = true) (hN : X.N.Nodup) (ha : DA X T W [a, b] fs)
    (hi : X.N[i]? = some x := by rfl) (hj : X.N[j]? = some y := by rfl) (hx : Loc X.env.scope x := by first | exact Or.inl rfl | exact Or.inr rfl) (hy : Loc X.env.scope y := by first | exact Or.inl rfl | exact Or.inr rfl)
    (hfx : X.fn x = true ∨ X.env.scope.names.lookup x = some .local := by first | exact .inl rfl | exact .inr rfl) (hfy : X.fn y = true ∨ X.env.scope.names.lookup y = some .local := by first | exact .inl rfl | exact .inr rfl) (hPi : i ∉ P := by decide) (hPj : j ∉ P := by decide)
    (hs : swapsWithSole [.Tuple [.Name x px, .Name y py] kt pt] (.Tuple [a, b] k2 pt2) pos.line X.env = pure false := by rfl) (hw : swappedStores [.Tuple [.Name x px, .Name y py] kt pt] (.Tuple [a, b] k2 pt2) X.env = pure none := by rfl)
    (h1 : (assignEach [.Tuple [.Name x px, .Name y py] kt pt] X.env).map (·.2) = [assign (.Tuple [.Name x px, .Name y py] kt pt) X.env] := by rfl)
    (hq1 : (assignEach [.Name x px, .Name y py] X.env).map (·.2) = assign (.Name x px) X.env :: (assignEach [.Name y py] X.env).map (·.2) := by rfl) (hq2 : (assignEach [.Name y py] X.env).map (·.2) = assign (.Name y py) X.env :: (assignEach [] X.env).map (·.2) := by rfl)
    (hn : (assignEach [.Name x px, .Name y py] X.env).length = 2 := by rfl) (hst : (assignEach [.Name x px, .Name y py] X.env).findIdx? (·.1) = none := by rfl) :
    DS X T W P (.Assign [.Tuple [.Name x px, .Name y py] kt pt] (.Tuple [a, b] k2 pt2) pos) (dPar i j fs) := by
  refine PS.imp (ps_asg (pe_tup ha) (pg_tup hc (pgs_cons (pg_name hN hi hx hfx) (pgs_cons (pg_name hN hj hy hfy) pgs_nil hq2) hq1) hn hst) hs hw h1) fun D σ H q => ?_
  obtain ⟨F, ε, k, p⟩ := q
  show tDA X.K T W fs σ H _
  refine tDA_useS (g := fun rs ε1 => vPar i j ε1 rs) (S := SF X.K T H D) k Ext.refl (fun _ _ => rfl) p fun vs F1 H0 rs ε1 k0 x0 y0 q0 n1 nd p1 => ?_
  unfold vPar at p1
  split at p1
  · rename_i r1 r2
    obtain ⟨v, w, rfl, _⟩ := id q0
    obtain ⟨v', w', e', h1', h2'⟩ := q0
    cases e'
    obtain ⟨w2, w0, rfl, h2, h3⟩ := h2'
    have h3 : w0 = [] := h3
    subst h3
    refine ⟨by show 2 ≤ sizeLine; rw [sizeLine_eq]; omega, fun t ht => ⟨t, [v, w2], rfl, .inl (.inl upd_same), rfl, v, [w2], rfl, w2, [], rfl, rfl, ?_⟩⟩
    have k1 : Ok X.K T F1 (upd H0 t (.tup [v, w2])) σ ε1 := ok_alloc k0 ht
    have x1 : Ext F H σ ε F1 (upd H0 t (.tup [v, w2])) σ ε1 := y0.alloc ht
    have ex : Ext F1 H0 σ ε1 F1 (upd H0 t (.tup [v, w2])) σ ε1 := Ext.refl.alloc ht
    have h1 := RpR.ext ex h1'
    have h2 := RpR.ext ex h2
    by_cases hfn : (isFN r1 && isFN r2) = true
    · rw [if_pos hfn] at p1
      rw [Bool.and_eq_true] at hfn
      cases e1 : vSto i ε1 r1 with
      | none => simp only [e1] at p1; exact p1.elim
      | some ε2 =>
        simp only [e1] at p1
        cases e2 : vSto j ε2 r2 with
        | none => simp only [e2] at p1; exact p1.elim
        | some ε3 =>
          simp only [e2] at p1
          have nda : ∀ a ∈ newA r2 w2, a ∉ newA r1 v := fun a ha hb => by
            have nd' : (newA r1 v ++ (newA r2 w2 ++ [])).Nodup := nd
            rw [List.append_nil] at nd'
            exact (List.nodup_append.mp nd').2.2 a hb a ha rfl
          obtain ⟨k2, x2⟩ := sto_fn (i := i) hfn.1 x1 k1 h1 (fun a ha => n1 a (List.mem_append_left _ ha)) e1
          have h2'' := rpR_sto (i := i) h1 h2 hfn.1 hfn.2 nda e1
          obtain ⟨F3, k3, x3, s3⟩ := sto_ok (i := j) x2 k2 h2'' (fun a ha => n1 a (List.mem_append_right _ (List.mem_append_left _ ha))) e2
          refine p1 F3 _ _ k3 x3 fun l hl => ?_
          rw [List.getElem?_set_ne (fun z => hPj (by rw [z]; exact hl)), List.getElem?_set_ne (fun z => hPi (by rw [z]; exact hl))]
    · rw [if_neg hfn] at p1; exact p1.elim
  · exact p1.elim
end
end DL

/-! printed by gen.py -/
namespace K21
open PySem PySem.Spec PyProof.Rows L2 DL
def top (i : Nat) : Stmt := PySem.Challenge.pw_strokeholes_k21_whole_written_matches.main.body.getD i (.Pass ⟨0, 0, 0, 0⟩)
abbrev s_is_from : Stmt := top 20
abbrev s_good_index : Stmt := top 22
abbrev s_good_scores : Stmt := top 21
abbrev s_is_match : Stmt := top 23
abbrev s_need_match : Stmt := top 24
abbrev s_need_strokes : Stmt := top 25
abbrev s_end_of : Stmt := top 49
abbrev s_sign : Stmt := top 28
abbrev s_at_hole : Stmt := top 26
abbrev s_holes_of : Stmt := top 29
abbrev s_leads_of : Stmt := top 32
abbrev s_word_for : Stmt := top 50
abbrev s_ending : Stmt := top 52
abbrev s__law_pick : Stmt := top 88
abbrev s__law_deck : Stmt := top 87
abbrev s_step : Stmt := top 34
abbrev s_differences_of : Stmt := top 40
abbrev s_is_stairs : Stmt := top 41
abbrev s_strokes_at : Stmt := top 27
abbrev s_stairs_of : Stmt := top 35
abbrev s_stairs : Stmt := top 36
abbrev s_range_for : Stmt := top 37
abbrev s_halved : Stmt := top 39
abbrev s_strokes_for : Stmt := top 38
abbrev s_differences : Stmt := top 42
abbrev s_result : Stmt := top 31
abbrev s_hole_results : Stmt := top 30
abbrev s_holes_played : Stmt := top 51
abbrev s_need_scores : Stmt := top 75
abbrev s_need_few : Stmt := top 80
abbrev s_ground : Stmt := top 76
abbrev s_factorial : Stmt := top 78
abbrev s_choose : Stmt := top 77
abbrev s_ways : Stmt := top 79
abbrev s_count_orders : Stmt := top 85
abbrev s_need_seen : Stmt := top 81
abbrev s_with_more : Stmt := top 83
abbrev s_possible_results : Stmt := top 84
abbrev s_count_indexes : Stmt := top 82
abbrev s_prices : Stmt := top 44
abbrev s_cheapest : Stmt := top 45
abbrev s_best_saving : Stmt := top 46
abbrev s_fewest_saved : Stmt := top 47
abbrev s__law_four_right : Stmt := top 91
abbrev s_is_group : Stmt := top 56
abbrev s_all_halved : Stmt := top 59
abbrev s_good_handicaps : Stmt := top 70
abbrev s_match_of : Stmt := top 60
abbrev s_results : Stmt := top 71
abbrev s_good_wishes : Stmt := top 57
abbrev s_need_wishes : Stmt := top 58
abbrev s_shorter : Stmt := top 62
abbrev s_tight : Stmt := top 63
abbrev s_bounds_of : Stmt := top 61
abbrev s_table_of : Stmt := top 64
abbrev s_need_table : Stmt := top 66
abbrev s_least_handicaps : Stmt := top 67
abbrev s_can_come : Stmt := top 65
abbrev s_need_player : Stmt := top 68
abbrev s_difference_range : Stmt := top 69
abbrev s_shortest_ring : Stmt := top 72
abbrev s_clash : Stmt := top 73
abbrev s__law_three_right : Stmt := top 92
abbrev s_law : Stmt := top 93
abbrev N_is_from : List Str := ["value", "low", "high"]
abbrev N_good_index : List Str := ["count", "value", "one"]
abbrev N_good_scores : List Str := ["value", "score"]
abbrev N_is_match : List Str := ["value", "first", "second", "index"]
abbrev N_need_match : List Str := ["match"]
abbrev N_need_strokes : List Str := ["strokes"]
abbrev N_end_of : List Str := ["rows", "played", "lead"]
abbrev N_sign : List Str := ["number"]
abbrev N_at_hole : List Str := ["count", "place", "strokes"]
abbrev N_holes_of : List Str := ["match", "strokes", "first", "second", "index", "one", "two", "place"]
abbrev N_leads_of : List Str := ["match", "strokes", "found", "lead", "one"]
abbrev N_word_for : List Str := ["count", "played", "lead"]
abbrev N_ending : List Str := ["match", "strokes", "played", "lead"]
abbrev N__law_pick : List Str := ["_law_deck_here", "_law_limit", "_law_found", "_law_number"]
abbrev N__law_deck : List Str := ["_law_cell", "_law_turn"]
abbrev N_step : List Str := ["count", "place", "strokes"]
abbrev N_differences_of : List Str := ["value", "count", "found", "place", "own", "more", "one", "other"]
abbrev N_is_stairs : List Str := ["value"]
abbrev N_strokes_at : List Str := ["match", "strokes", "place"]
abbrev N_stairs_of : List Str := ["match", "first", "second", "index", "found", "one", "two", "place"]
abbrev N_stairs : List Str := ["match"]
abbrev N_range_for : List Str := ["rows", "wished", "place", "low"]
abbrev N_halved : List Str := ["match"]
abbrev N_strokes_for : List Str := ["match", "wished"]
abbrev N_differences : List Str := ["value", "found"]
abbrev N_result : List Str := ["match", "strokes"]
abbrev N_hole_results : List Str := ["match", "strokes"]
abbrev N_holes_played : List Str := ["match", "strokes"]
abbrev N_need_scores : List Str := ["first", "second"]
abbrev N_need_few : List Str := ["count", "strokes"]
abbrev N_ground : List Str := ["first", "second", "level", "one", "two"]
abbrev N_factorial : List Str := ["many", "found", "k"]
abbrev N_choose : List Str := ["many", "few", "found", "k"]
abbrev N_ways : List Str := ["first", "second", "seen", "count", "level", "turning", "rows", "found", "one", "other", "strokes", "told"]
abbrev N_count_orders : List Str := ["first", "second", "strokes", "wished"]
abbrev N_need_seen : List Str := ["count", "seen", "pair", "one", "other"]
abbrev N_with_more : List Str := ["seen", "strokes", "wished", "known", "one"]
abbrev N_possible_results : List Str := ["first", "second", "seen", "strokes", "found", "wished", "more"]
abbrev N_count_indexes : List Str := ["first", "second", "seen"]
abbrev N_prices : List Str := ["match", "strokes", "found", "one", "two", "place", "behind", "rows", "saved"]
abbrev N_cheapest : List Str := ["match", "strokes", "found", "rows", "later", "rise", "saved", "more", "row"]
abbrev N_best_saving : List Str := ["match", "strokes", "wished", "level", "table", "rows", "rise"]
abbrev N_fewest_saved : List Str := ["match", "strokes", "wished", "row"]
abbrev N__law_four_right : List Str := ["_law_t", "_law_match", "_law_first", "_law_second", "_law_wished", "_law_strokes"]
abbrev N_is_group : List Str := ["value", "rows", "index", "row"]
abbrev N_all_halved : List Str := ["group", "count", "one", "other"]
abbrev N_good_handicaps : List Str := ["group", "value", "one"]
abbrev N_match_of : List Str := ["group", "one", "other"]
abbrev N_results : List Str := ["group", "handicaps", "found", "count", "one", "row", "other"]
abbrev N_good_wishes : List Str := ["group", "value", "wish", "one", "other"]
abbrev N_need_wishes : List Str := ["group", "wishes"]
abbrev N_shorter : List Str := ["one", "other"]
abbrev N_tight : List Str := ["count", "rows", "found", "one", "other", "most", "place", "middle", "more"]
abbrev N_bounds_of : List Str := ["group", "wishes", "found", "place", "one", "other", "wished", "low", "high"]
abbrev N_table_of : List Str := ["group", "wishes", "count", "found", "one"]
abbrev N_need_table : List Str := ["group", "wishes", "found"]
abbrev N_least_handicaps : List Str := ["group", "wishes", "table", "found", "one", "rows", "other", "most"]
abbrev N_can_come : List Str := ["group", "wishes"]
abbrev N_need_player : List Str := ["group", "player"]
abbrev N_difference_range : List Str := ["group", "wishes", "one", "other", "table", "low"]
abbrev N_shortest_ring : List Str := ["count", "rows", "best", "one", "size", "later", "here", "start", "stop", "most", "place", "number", "path", "row"]
abbrev N_clash : List Str := ["group", "wishes", "found"]
abbrev N__law_three_right : List Str := ["_law_t", "_law_group", "_law_wishes"]
abbrev N_law : List Str := ["_law_script", "_law_cell", "_law_t"]
structure Md (K : PySem.W.Frag) (mg : Str → Option Value) where
  f_is_from : Addr
  d_is_from : FuncData
  F_is_from : Fun K "is_from" "is_from" s_is_from f_is_from d_is_from
  b_is_from : Binds K d_is_from ["value", "low", "high"] []
  g_is_from : mg "is_from" = some (.ref f_is_from)
  f_good_index : Addr
  d_good_index : FuncData
  F_good_index : Fun K "good_index" "good_index" s_good_index f_good_index d_good_index
  b_good_index : Binds K d_good_index ["count", "value"] []
  g_good_index : mg "good_index" = some (.ref f_good_index)
  f_good_scores : Addr
  d_good_scores : FuncData
  F_good_scores : Fun K "good_scores" "good_scores" s_good_scores f_good_scores d_good_scores
  b_good_scores : Binds K d_good_scores ["value"] []
  g_good_scores : mg "good_scores" = some (.ref f_good_scores)
  f_is_match : Addr
  d_is_match : FuncData
  F_is_match : Fun K "is_match" "is_match" s_is_match f_is_match d_is_match
  b_is_match : Binds K d_is_match ["value"] []
  g_is_match : mg "is_match" = some (.ref f_is_match)
  f_need_match : Addr
  d_need_match : FuncData
  F_need_match : Fun K "need_match" "need_match" s_need_match f_need_match d_need_match
  b_need_match : Binds K d_need_match ["match"] []
  g_need_match : mg "need_match" = some (.ref f_need_match)
  f_need_strokes : Addr
  d_need_strokes : FuncData
  F_need_strokes : Fun K "need_strokes" "need_strokes" s_need_strokes f_need_strokes d_need_strokes
  b_need_strokes : Binds K d_need_strokes ["strokes"] []
  g_need_strokes : mg "need_strokes" = some (.ref f_need_strokes)
  f_end_of : Addr
  d_end_of : FuncData
  F_end_of : Fun K "end_of" "end_of" s_end_of f_end_of d_end_of
  b_end_of : Binds K d_end_of ["rows"] []
  g_end_of : mg "end_of" = some (.ref f_end_of)
  f_sign : Addr
  d_sign : FuncData
  F_sign : Fun K "sign" "sign" s_sign f_sign d_sign
  b_sign : Binds K d_sign ["number"] []
  g_sign : mg "sign" = some (.ref f_sign)
  f_at_hole : Addr
  d_at_hole : FuncData
  F_at_hole : Fun K "at_hole" "at_hole" s_at_hole f_at_hole d_at_hole
  b_at_hole : Binds K d_at_hole ["count", "place", "strokes"] []
  g_at_hole : mg "at_hole" = some (.ref f_at_hole)
  f_holes_of : Addr
  d_holes_of : FuncData
  F_holes_of : Fun K "holes_of" "holes_of" s_holes_of f_holes_of d_holes_of
  b_holes_of : Binds K d_holes_of ["match", "strokes"] []
  g_holes_of : mg "holes_of" = some (.ref f_holes_of)
  f_leads_of : Addr
  d_leads_of : FuncData
  F_leads_of : Fun K "leads_of" "leads_of" s_leads_of f_leads_of d_leads_of
  b_leads_of : Binds K d_leads_of ["match", "strokes"] []
  g_leads_of : mg "leads_of" = some (.ref f_leads_of)
  f_word_for : Addr
  d_word_for : FuncData
  F_word_for : Fun K "word_for" "word_for" s_word_for f_word_for d_word_for
  b_word_for : Binds K d_word_for ["count", "played", "lead"] []
  g_word_for : mg "word_for" = some (.ref f_word_for)
  f_ending : Addr
  d_ending : FuncData
  F_ending : Fun K "ending" "ending" s_ending f_ending d_ending
  b_ending : Binds K d_ending ["match", "strokes"] []
  g_ending : mg "ending" = some (.ref f_ending)
  f__law_pick : Addr
  d__law_pick : FuncData
  F__law_pick : Fun K "_law_pick" "_law_pick" s__law_pick f__law_pick d__law_pick
  b__law_pick : Binds K d__law_pick ["_law_deck_here", "_law_limit"] []
  g__law_pick : mg "_law_pick" = some (.ref f__law_pick)
  f__law_deck : Addr
  d__law_deck : FuncData
  F__law_deck : Fun K "_law_deck" "_law_deck" s__law_deck f__law_deck d__law_deck
  b__law_deck : Binds K d__law_deck ["_law_cell", "_law_turn"] []
  g__law_deck : mg "_law_deck" = some (.ref f__law_deck)
  f_step : Addr
  d_step : FuncData
  F_step : Fun K "step" "step" s_step f_step d_step
  b_step : Binds K d_step ["count", "place", "strokes"] []
  g_step : mg "step" = some (.ref f_step)
  f_differences_of : Addr
  d_differences_of : FuncData
  F_differences_of : Fun K "differences_of" "differences_of" s_differences_of f_differences_of d_differences_of
  b_differences_of : Binds K d_differences_of ["value"] []
  g_differences_of : mg "differences_of" = some (.ref f_differences_of)
  f_is_stairs : Addr
  d_is_stairs : FuncData
  F_is_stairs : Fun K "is_stairs" "is_stairs" s_is_stairs f_is_stairs d_is_stairs
  b_is_stairs : Binds K d_is_stairs ["value"] []
  g_is_stairs : mg "is_stairs" = some (.ref f_is_stairs)
  f_strokes_at : Addr
  d_strokes_at : FuncData
  F_strokes_at : Fun K "strokes_at" "strokes_at" s_strokes_at f_strokes_at d_strokes_at
  b_strokes_at : Binds K d_strokes_at ["match", "strokes"] []
  g_strokes_at : mg "strokes_at" = some (.ref f_strokes_at)
  f_stairs_of : Addr
  d_stairs_of : FuncData
  F_stairs_of : Fun K "stairs_of" "stairs_of" s_stairs_of f_stairs_of d_stairs_of
  b_stairs_of : Binds K d_stairs_of ["match"] []
  g_stairs_of : mg "stairs_of" = some (.ref f_stairs_of)
  f_stairs : Addr
  d_stairs : FuncData
  F_stairs : Fun K "stairs" "stairs" s_stairs f_stairs d_stairs
  b_stairs : Binds K d_stairs ["match"] []
  g_stairs : mg "stairs" = some (.ref f_stairs)
  f_range_for : Addr
  d_range_for : FuncData
  F_range_for : Fun K "range_for" "range_for" s_range_for f_range_for d_range_for
  b_range_for : Binds K d_range_for ["rows", "wished"] []
  g_range_for : mg "range_for" = some (.ref f_range_for)
  f_halved : Addr
  d_halved : FuncData
  F_halved : Fun K "halved" "halved" s_halved f_halved d_halved
  b_halved : Binds K d_halved ["match"] []
  g_halved : mg "halved" = some (.ref f_halved)
  f_strokes_for : Addr
  d_strokes_for : FuncData
  F_strokes_for : Fun K "strokes_for" "strokes_for" s_strokes_for f_strokes_for d_strokes_for
  b_strokes_for : Binds K d_strokes_for ["match", "wished"] []
  g_strokes_for : mg "strokes_for" = some (.ref f_strokes_for)
  f_differences : Addr
  d_differences : FuncData
  F_differences : Fun K "differences" "differences" s_differences f_differences d_differences
  b_differences : Binds K d_differences ["value"] []
  g_differences : mg "differences" = some (.ref f_differences)
  f_result : Addr
  d_result : FuncData
  F_result : Fun K "result" "result" s_result f_result d_result
  b_result : Binds K d_result ["match", "strokes"] []
  g_result : mg "result" = some (.ref f_result)
  f_hole_results : Addr
  d_hole_results : FuncData
  F_hole_results : Fun K "hole_results" "hole_results" s_hole_results f_hole_results d_hole_results
  b_hole_results : Binds K d_hole_results ["match", "strokes"] []
  g_hole_results : mg "hole_results" = some (.ref f_hole_results)
  f_holes_played : Addr
  d_holes_played : FuncData
  F_holes_played : Fun K "holes_played" "holes_played" s_holes_played f_holes_played d_holes_played
  b_holes_played : Binds K d_holes_played ["match", "strokes"] []
  g_holes_played : mg "holes_played" = some (.ref f_holes_played)
  f_need_scores : Addr
  d_need_scores : FuncData
  F_need_scores : Fun K "need_scores" "need_scores" s_need_scores f_need_scores d_need_scores
  b_need_scores : Binds K d_need_scores ["first", "second"] []
  g_need_scores : mg "need_scores" = some (.ref f_need_scores)
  f_need_few : Addr
  d_need_few : FuncData
  F_need_few : Fun K "need_few" "need_few" s_need_few f_need_few d_need_few
  b_need_few : Binds K d_need_few ["count", "strokes"] []
  g_need_few : mg "need_few" = some (.ref f_need_few)
  f_ground : Addr
  d_ground : FuncData
  F_ground : Fun K "ground" "ground" s_ground f_ground d_ground
  b_ground : Binds K d_ground ["first", "second"] []
  g_ground : mg "ground" = some (.ref f_ground)
  f_factorial : Addr
  d_factorial : FuncData
  F_factorial : Fun K "factorial" "factorial" s_factorial f_factorial d_factorial
  b_factorial : Binds K d_factorial ["many"] []
  g_factorial : mg "factorial" = some (.ref f_factorial)
  f_choose : Addr
  d_choose : FuncData
  F_choose : Fun K "choose" "choose" s_choose f_choose d_choose
  b_choose : Binds K d_choose ["many", "few"] []
  g_choose : mg "choose" = some (.ref f_choose)
  f_ways : Addr
  d_ways : FuncData
  F_ways : Fun K "ways" "ways" s_ways f_ways d_ways
  b_ways : Binds K d_ways ["first", "second", "seen"] []
  g_ways : mg "ways" = some (.ref f_ways)
  f_count_orders : Addr
  d_count_orders : FuncData
  F_count_orders : Fun K "count_orders" "count_orders" s_count_orders f_count_orders d_count_orders
  b_count_orders : Binds K d_count_orders ["first", "second", "strokes", "wished"] []
  g_count_orders : mg "count_orders" = some (.ref f_count_orders)
  f_need_seen : Addr
  d_need_seen : FuncData
  F_need_seen : Fun K "need_seen" "need_seen" s_need_seen f_need_seen d_need_seen
  b_need_seen : Binds K d_need_seen ["count", "seen"] []
  g_need_seen : mg "need_seen" = some (.ref f_need_seen)
  f_with_more : Addr
  d_with_more : FuncData
  F_with_more : Fun K "with_more" "with_more" s_with_more f_with_more d_with_more
  b_with_more : Binds K d_with_more ["seen", "strokes", "wished"] []
  g_with_more : mg "with_more" = some (.ref f_with_more)
  f_possible_results : Addr
  d_possible_results : FuncData
  F_possible_results : Fun K "possible_results" "possible_results" s_possible_results f_possible_results d_possible_results
  b_possible_results : Binds K d_possible_results ["first", "second", "seen", "strokes"] []
  g_possible_results : mg "possible_results" = some (.ref f_possible_results)
  f_count_indexes : Addr
  d_count_indexes : FuncData
  F_count_indexes : Fun K "count_indexes" "count_indexes" s_count_indexes f_count_indexes d_count_indexes
  b_count_indexes : Binds K d_count_indexes ["first", "second", "seen"] []
  g_count_indexes : mg "count_indexes" = some (.ref f_count_indexes)
  f_prices : Addr
  d_prices : FuncData
  F_prices : Fun K "prices" "prices" s_prices f_prices d_prices
  b_prices : Binds K d_prices ["match", "strokes"] []
  g_prices : mg "prices" = some (.ref f_prices)
  f_cheapest : Addr
  d_cheapest : FuncData
  F_cheapest : Fun K "cheapest" "cheapest" s_cheapest f_cheapest d_cheapest
  b_cheapest : Binds K d_cheapest ["match", "strokes"] []
  g_cheapest : mg "cheapest" = some (.ref f_cheapest)
  f_best_saving : Addr
  d_best_saving : FuncData
  F_best_saving : Fun K "best_saving" "best_saving" s_best_saving f_best_saving d_best_saving
  b_best_saving : Binds K d_best_saving ["match", "strokes", "wished"] []
  g_best_saving : mg "best_saving" = some (.ref f_best_saving)
  f_fewest_saved : Addr
  d_fewest_saved : FuncData
  F_fewest_saved : Fun K "fewest_saved" "fewest_saved" s_fewest_saved f_fewest_saved d_fewest_saved
  b_fewest_saved : Binds K d_fewest_saved ["match", "strokes", "wished"] []
  g_fewest_saved : mg "fewest_saved" = some (.ref f_fewest_saved)
  f__law_four_right : Addr
  d__law_four_right : FuncData
  F__law_four_right : Fun K "_law_four_right" "_law_four_right" s__law_four_right f__law_four_right d__law_four_right
  b__law_four_right : Binds K d__law_four_right ["_law_t"] []
  g__law_four_right : mg "_law_four_right" = some (.ref f__law_four_right)
  f_is_group : Addr
  d_is_group : FuncData
  F_is_group : Fun K "is_group" "is_group" s_is_group f_is_group d_is_group
  b_is_group : Binds K d_is_group ["value"] []
  g_is_group : mg "is_group" = some (.ref f_is_group)
  f_all_halved : Addr
  d_all_halved : FuncData
  F_all_halved : Fun K "all_halved" "all_halved" s_all_halved f_all_halved d_all_halved
  b_all_halved : Binds K d_all_halved ["group"] []
  g_all_halved : mg "all_halved" = some (.ref f_all_halved)
  f_good_handicaps : Addr
  d_good_handicaps : FuncData
  F_good_handicaps : Fun K "good_handicaps" "good_handicaps" s_good_handicaps f_good_handicaps d_good_handicaps
  b_good_handicaps : Binds K d_good_handicaps ["group", "value"] []
  g_good_handicaps : mg "good_handicaps" = some (.ref f_good_handicaps)
  f_match_of : Addr
  d_match_of : FuncData
  F_match_of : Fun K "match_of" "match_of" s_match_of f_match_of d_match_of
  b_match_of : Binds K d_match_of ["group", "one", "other"] []
  g_match_of : mg "match_of" = some (.ref f_match_of)
  f_results : Addr
  d_results : FuncData
  F_results : Fun K "results" "results" s_results f_results d_results
  b_results : Binds K d_results ["group", "handicaps"] []
  g_results : mg "results" = some (.ref f_results)
  f_good_wishes : Addr
  d_good_wishes : FuncData
  F_good_wishes : Fun K "good_wishes" "good_wishes" s_good_wishes f_good_wishes d_good_wishes
  b_good_wishes : Binds K d_good_wishes ["group", "value"] []
  g_good_wishes : mg "good_wishes" = some (.ref f_good_wishes)
  f_need_wishes : Addr
  d_need_wishes : FuncData
  F_need_wishes : Fun K "need_wishes" "need_wishes" s_need_wishes f_need_wishes d_need_wishes
  b_need_wishes : Binds K d_need_wishes ["group", "wishes"] []
  g_need_wishes : mg "need_wishes" = some (.ref f_need_wishes)
  f_shorter : Addr
  d_shorter : FuncData
  F_shorter : Fun K "shorter" "shorter" s_shorter f_shorter d_shorter
  b_shorter : Binds K d_shorter ["one", "other"] []
  g_shorter : mg "shorter" = some (.ref f_shorter)
  f_tight : Addr
  d_tight : FuncData
  F_tight : Fun K "tight" "tight" s_tight f_tight d_tight
  b_tight : Binds K d_tight ["count", "rows"] []
  g_tight : mg "tight" = some (.ref f_tight)
  f_bounds_of : Addr
  d_bounds_of : FuncData
  F_bounds_of : Fun K "bounds_of" "bounds_of" s_bounds_of f_bounds_of d_bounds_of
  b_bounds_of : Binds K d_bounds_of ["group", "wishes"] []
  g_bounds_of : mg "bounds_of" = some (.ref f_bounds_of)
  f_table_of : Addr
  d_table_of : FuncData
  F_table_of : Fun K "table_of" "table_of" s_table_of f_table_of d_table_of
  b_table_of : Binds K d_table_of ["group", "wishes"] []
  g_table_of : mg "table_of" = some (.ref f_table_of)
  f_need_table : Addr
  d_need_table : FuncData
  F_need_table : Fun K "need_table" "need_table" s_need_table f_need_table d_need_table
  b_need_table : Binds K d_need_table ["group", "wishes"] []
  g_need_table : mg "need_table" = some (.ref f_need_table)
  f_least_handicaps : Addr
  d_least_handicaps : FuncData
  F_least_handicaps : Fun K "least_handicaps" "least_handicaps" s_least_handicaps f_least_handicaps d_least_handicaps
  b_least_handicaps : Binds K d_least_handicaps ["group", "wishes"] []
  g_least_handicaps : mg "least_handicaps" = some (.ref f_least_handicaps)
  f_can_come : Addr
  d_can_come : FuncData
  F_can_come : Fun K "can_come" "can_come" s_can_come f_can_come d_can_come
  b_can_come : Binds K d_can_come ["group", "wishes"] []
  g_can_come : mg "can_come" = some (.ref f_can_come)
  f_need_player : Addr
  d_need_player : FuncData
  F_need_player : Fun K "need_player" "need_player" s_need_player f_need_player d_need_player
  b_need_player : Binds K d_need_player ["group", "player"] []
  g_need_player : mg "need_player" = some (.ref f_need_player)
  f_difference_range : Addr
  d_difference_range : FuncData
  F_difference_range : Fun K "difference_range" "difference_range" s_difference_range f_difference_range d_difference_range
  b_difference_range : Binds K d_difference_range ["group", "wishes", "one", "other"] []
  g_difference_range : mg "difference_range" = some (.ref f_difference_range)
  f_shortest_ring : Addr
  d_shortest_ring : FuncData
  F_shortest_ring : Fun K "shortest_ring" "shortest_ring" s_shortest_ring f_shortest_ring d_shortest_ring
  b_shortest_ring : Binds K d_shortest_ring ["count", "rows"] []
  g_shortest_ring : mg "shortest_ring" = some (.ref f_shortest_ring)
  f_clash : Addr
  d_clash : FuncData
  F_clash : Fun K "clash" "clash" s_clash f_clash d_clash
  b_clash : Binds K d_clash ["group", "wishes"] []
  g_clash : mg "clash" = some (.ref f_clash)
  f__law_three_right : Addr
  d__law_three_right : FuncData
  F__law_three_right : Fun K "_law_three_right" "_law_three_right" s__law_three_right f__law_three_right d__law_three_right
  b__law_three_right : Binds K d__law_three_right ["_law_t"] []
  g__law_three_right : mg "_law_three_right" = some (.ref f__law_three_right)
  f_law : Addr
  d_law : FuncData
  F_law : Fun K "law" "law" s_law f_law d_law
  b_law : Binds K d_law ["_law_script"] []
  g_law : mg "law" = some (.ref f_law)
  t_HIGHEST : Tok
  c_HIGHEST : mg "HIGHEST" = some (.int 15 t_HIGHEST)
  t_MOST_HANDICAP : Tok
  c_MOST_HANDICAP : mg "MOST_HANDICAP" = some (.int 1000 t_MOST_HANDICAP)
  t_MOST_HOLES : Tok
  c_MOST_HOLES : mg "MOST_HOLES" = some (.int 18 t_MOST_HOLES)
  t_MOST_PLAYERS : Tok
  c_MOST_PLAYERS : mg "MOST_PLAYERS" = some (.int 8 t_MOST_PLAYERS)
  t_MOST_STROKES : Tok
  c_MOST_STROKES : mg "MOST_STROKES" = some (.int 1000 t_MOST_STROKES)
  n_abs : mg "abs" = none
  n_all : mg "all" = none
  n_bool : mg "bool" = none
  n_dict : mg "dict" = none
  n_enumerate : mg "enumerate" = none
  n_int : mg "int" = none
  n_isinstance : mg "isinstance" = none
  n_len : mg "len" = none
  n_max : mg "max" = none
  n_min : mg "min" = none
  n_range : mg "range" = none
  n_set : mg "set" = none
  n_sorted : mg "sorted" = none
  n_sum : mg "sum" = none
  n_tuple : mg "tuple" = none
  n_zip : mg "zip" = none
section
variable {P : Program} {w : World} {K : PySem.W.Frag} {mg : Str → Option Value} {base : Heap} {T : Tab}
def φ_is_from : En → O R := fnD [0, 1, 2] 0 ((dRet (dAndV (dFn gIsi5 (dCons (dVar 0) (dCons (dC (.ty "int")) dNil))) (dAndV (dNotV (dFn gIsi5 (dCons (dVar 0) (dCons (dC (.ty "bool")) dNil)))) (dCh gLe gLe (dVar 1) (dVar 0) (dVar 2))))))
theorem sc_is_from : FnScope N_is_from ["value", "low", "high"] (defScope s_is_from) := ⟨rfl, rfl, rfl, by decide +kernel, rfl, by decide +kernel, by decide +kernel⟩
theorem ok_is_from (M : Md K mg) : FnOk P w K mg base (L2.CX P w) 1 M.f_is_from M.d_is_from ["value", "low", "high"] (spD K T 3 φ_is_from) := by
  have sc := sc_is_from
  exact fn_ok (k := 0) (Pr := [0, 1, 2]) 3 0 M.F_is_from sc rfl rfl fun cdv A outer s H E hr =>
  (dss_one (ds_ret (de_and (de_isi (by rfl) M.n_isinstance (da_cons (de_var 0 (pv 0)) (da_cons (de_ty (by rfl) M.n_int) da_nil))) (de_and (de_not (de_isi (by rfl) M.n_isinstance (da_cons (de_var 0 (pv 0)) (da_cons (de_ty (by rfl) M.n_bool) da_nil)))) (de_one (de_lele (de_var 1 (pv 1)) (de_var 0 (pv 0)) (de_var 2 (pv 2))))))))
def φ_good_index : En → O R := fnD [0, 1] 1 ((dSeq (dIf (dOr (dNot (dTru (dFn gIsi5 (dCons (dVar 1) (dCons (dC (.ty "tuple")) dNil))))) (dTst (dOp2 gNe (dFn gLen (dCons (dVar 1) dNil)) (dVar 0)))) (dRet (dC (.bl false))) dSkip)
  (dRet (dAndV (dFn gAll (dCons (dLC (dSeqI (dVar 1)) (gN 2) dYes (dCall φ_is_from [false, false, false] (dCons (dVar 2) (dCons (dC (.int 1)) (dCons (dVar 0) dNil)))) [2]) dNil)) (dOp2 gEq (dLenSet (dVar 1)) (dVar 0))))))
theorem sc_good_index : FnScope N_good_index ["count", "value"] (defScope s_good_index) := ⟨rfl, rfl, rfl, by decide +kernel, rfl, by decide +kernel, by decide +kernel⟩
theorem ok_good_index (M : Md K mg) : FnOk P w K mg base (L2.CX P w) 2 M.f_good_index M.d_good_index ["count", "value"] (spD K T 2 φ_good_index) := by
  have sc := sc_good_index
  exact fn_ok (k := 1) (Pr := [0, 1]) 2 1 M.F_good_index sc rfl rfl fun cdv A outer s H E hr =>
  (dss_cons (ds_if (dt_bool (dw_or (dt_not (dt_tru (de_isi (by rfl) M.n_isinstance (da_cons (de_var 1 (pv 1)) (da_cons (de_ty (by rfl) M.n_tuple) da_nil))))) (dw_or1 (dt_ne hr.units (de_len (by rfl) M.n_len (da_cons (de_var 1 (pv 1)) da_nil)) (de_var 0 (pv 0)))))) (dss_one (ds_ret de_bl)) dss_nil)
  (dss_one (ds_ret (de_and (de_all rfl (by rfl) M.n_all (da_cons (de_lc (own := [("one", 2)]) rfl sc.nd (di_seq (de_var 1 (pv 1))) (blkOk_by (N := N_good_index) (sc := defScope s_good_index) (by decide +kernel)) (fun _ _ _ _ _ => (dg_name (i := 2) sc.nd)) (fun _ _ _ _ _ => dts_nil) (fun _ _ _ _ _ => (de_call [false, false, false] (ok_is_from M) (hr.mono (by decide)) (by rfl) M.g_is_from M.F_is_from.kp M.b_is_from takes0 (da_cons (de_var 2 (pv 2)) (da_cons de_int (da_cons (de_var 0 (pv 0)) da_nil))) (len_cons (len_cons (len_cons len_nil)))))) da_nil)) (de_one (de_eq hr.units (de_lenSet rfl (by rfl) M.n_len (by rfl) M.n_set (de_var 1 (pv 1))) (de_var 0 (pv 0))))))))
def φ_good_scores : En → O R := fnD [0] 1 ((dSeq (dIf (dOr (dNot (dTru (dFn gIsi5 (dCons (dVar 0) (dCons (dC (.ty "tuple")) dNil))))) (dNot (dTst (dCh gLe gLe (dC (.int 1)) (dFn gLen (dCons (dVar 0) dNil)) (dC (.int 18)))))) (dRet (dC (.bl false))) dSkip)
  (dRet (dFn gAll (dCons (dLC (dSeqI (dVar 0)) (gN 1) dYes (dCall φ_is_from [false, false, false] (dCons (dVar 1) (dCons (dC (.int 1)) (dCons (dC (.int 15)) dNil)))) [1]) dNil)))))
theorem sc_good_scores : FnScope N_good_scores ["value"] (defScope s_good_scores) := ⟨rfl, rfl, rfl, by decide +kernel, rfl, by decide +kernel, by decide +kernel⟩
theorem ok_good_scores (M : Md K mg) : FnOk P w K mg base (L2.CX P w) 2 M.f_good_scores M.d_good_scores ["value"] (spD K T 1 φ_good_scores) := by
  have sc := sc_good_scores
  exact fn_ok (k := 1) (Pr := [0]) 1 1 M.F_good_scores sc rfl rfl fun cdv A outer s H E hr =>
  (dss_cons (ds_if (dt_bool (dw_or (dt_not (dt_tru (de_isi (by rfl) M.n_isinstance (da_cons (de_var 0 (pv 0)) (da_cons (de_ty (by rfl) M.n_tuple) da_nil))))) (dw_or1 (dt_not (dt_lele de_int (de_len (by rfl) M.n_len (da_cons (de_var 0 (pv 0)) da_nil)) (de_glob (by rfl) M.c_MOST_HOLES)))))) (dss_one (ds_ret de_bl)) dss_nil)
  (dss_one (ds_ret (de_all rfl (by rfl) M.n_all (da_cons (de_lc (own := [("score", 1)]) rfl sc.nd (di_seq (de_var 0 (pv 0))) (blkOk_by (N := N_good_scores) (sc := defScope s_good_scores) (by decide +kernel)) (fun _ _ _ _ _ => (dg_name (i := 1) sc.nd)) (fun _ _ _ _ _ => dts_nil) (fun _ _ _ _ _ => (de_call [false, false, false] (ok_is_from M) (hr.mono (by decide)) (by rfl) M.g_is_from M.F_is_from.kp M.b_is_from takes0 (da_cons (de_var 1 (pv 1)) (da_cons de_int (da_cons (de_glob (by rfl) M.c_HIGHEST) da_nil))) (len_cons (len_cons (len_cons len_nil)))))) da_nil)))))
def φ_is_match : En → O R := fnD [0] 3 ((dSeq (dIf (dOr (dNot (dTru (dFn gIsi5 (dCons (dVar 0) (dCons (dC (.ty "tuple")) dNil))))) (dTst (dOp2 gNe (dFn gLen (dCons (dVar 0) dNil)) (dC (.int 3))))) (dRet (dC (.bl false))) dSkip)
  (dSeq (dAsg (gTupD 3 (gCons (gN 1) (gCons (gN 2) (gCons (gN 3) gNil)))) (dVar 0))
  (dSeq (dIf (dOr (dNot (dTru (dCall φ_good_scores [false] (dCons (dVar 1) dNil)))) (dOr (dNot (dTru (dCall φ_good_scores [false] (dCons (dVar 2) dNil)))) (dTst (dOp2 gNe (dFn gLen (dCons (dVar 1) dNil)) (dFn gLen (dCons (dVar 2) dNil)))))) (dRet (dC (.bl false))) dSkip)
  (dRet (dCall φ_good_index [false, false] (dCons (dFn gLen (dCons (dVar 1) dNil)) (dCons (dVar 3) dNil))))))))
theorem sc_is_match : FnScope N_is_match ["value"] (defScope s_is_match) := ⟨rfl, rfl, rfl, by decide +kernel, rfl, by decide +kernel, by decide +kernel⟩
theorem ok_is_match (M : Md K mg) : FnOk P w K mg base (L2.CX P w) 3 M.f_is_match M.d_is_match ["value"] (spD K T 1 φ_is_match) := by
  have sc := sc_is_match
  exact fn_ok (k := 2) (Pr := [0]) 1 3 M.F_is_match sc rfl rfl fun cdv A outer s H E hr =>
  (dss_cons (ds_if (dt_bool (dw_or (dt_not (dt_tru (de_isi (by rfl) M.n_isinstance (da_cons (de_var 0 (pv 0)) (da_cons (de_ty (by rfl) M.n_tuple) da_nil))))) (dw_or1 (dt_ne hr.units (de_len (by rfl) M.n_len (da_cons (de_var 0 (pv 0)) da_nil)) de_int)))) (dss_one (ds_ret de_bl)) dss_nil)
  (dss_cons (ds_asg (de_var 0 (pv 0)) (dg_tup (n := 3) rfl (dgs_cons (dg_name (i := 1) sc.nd) (dgs_cons (dg_name (i := 2) sc.nd) (dgs_cons (dg_name (i := 3) sc.nd) dgs_nil)))))
  (dss_cons (ds_if (dt_bool (dw_or (dt_not (dt_tru (de_call [false] (ok_good_scores M) (hr.mono (by decide)) (by rfl) M.g_good_scores M.F_good_scores.kp M.b_good_scores (takes_of rfl rfl rfl rfl) (da_cons (de_var 1 (pv 1)) da_nil) (len_cons len_nil)))) (dw_or (dt_not (dt_tru (de_call [false] (ok_good_scores M) (hr.mono (by decide)) (by rfl) M.g_good_scores M.F_good_scores.kp M.b_good_scores (takes_of rfl rfl rfl rfl) (da_cons (de_var 2 (pv 2)) da_nil) (len_cons len_nil)))) (dw_or1 (dt_ne hr.units (de_len (by rfl) M.n_len (da_cons (de_var 1 (pv 1)) da_nil)) (de_len (by rfl) M.n_len (da_cons (de_var 2 (pv 2)) da_nil))))))) (dss_one (ds_ret de_bl)) dss_nil)
  (dss_one (ds_ret (de_call [false, false] (ok_good_index M) (hr.mono (by decide)) (by rfl) M.g_good_index M.F_good_index.kp M.b_good_index (takes_of rfl rfl rfl rfl) (da_cons (de_len (by rfl) M.n_len (da_cons (de_var 1 (pv 1)) da_nil)) (da_cons (de_var 3 (pv 3)) da_nil)) (len_cons (len_cons len_nil))))))))
def φ_need_match : En → O R := fnD [0] 0 ((dIf (dNot (dTru (dCall φ_is_match [false] (dCons (dVar 0) dNil)))) (fun _ => .bad) dSkip))
theorem sc_need_match : FnScope N_need_match ["match"] (defScope s_need_match) := ⟨rfl, rfl, rfl, by decide +kernel, rfl, by decide +kernel, by decide +kernel⟩
theorem ok_need_match (M : Md K mg) : FnOk P w K mg base (L2.CX P w) 4 M.f_need_match M.d_need_match ["match"] (spD K T 1 φ_need_match) := by
  have sc := sc_need_match
  exact fn_ok (k := 3) (Pr := [0]) 1 0 M.F_need_match sc rfl rfl fun cdv A outer s H E hr =>
  (dss_one (ds_if (dt_not (dt_tru (de_call [false] (ok_is_match M) (hr.mono (by decide)) (by rfl) M.g_is_match M.F_is_match.kp M.b_is_match (takes_of rfl rfl rfl rfl) (da_cons (de_var 0 (pv 0)) da_nil) (len_cons len_nil)))) (dss_one ds_bad) dss_nil))
def φ_need_strokes : En → O R := fnD [0] 0 ((dIf (dNot (dTru (dCall φ_is_from [false, false, false] (dCons (dVar 0) (dCons (dUn gNeg (dC (.int 1000))) (dCons (dC (.int 1000)) dNil)))))) (fun _ => .bad) dSkip))
theorem sc_need_strokes : FnScope N_need_strokes ["strokes"] (defScope s_need_strokes) := ⟨rfl, rfl, rfl, by decide +kernel, rfl, by decide +kernel, by decide +kernel⟩
theorem ok_need_strokes (M : Md K mg) : FnOk P w K mg base (L2.CX P w) 2 M.f_need_strokes M.d_need_strokes ["strokes"] (spD K T 1 φ_need_strokes) := by
  have sc := sc_need_strokes
  exact fn_ok (k := 1) (Pr := [0]) 1 0 M.F_need_strokes sc rfl rfl fun cdv A outer s H E hr =>
  (dss_one (ds_if (dt_not (dt_tru (de_call [false, false, false] (ok_is_from M) (hr.mono (by decide)) (by rfl) M.g_is_from M.F_is_from.kp M.b_is_from (takes_of rfl rfl rfl rfl) (da_cons (de_var 0 (pv 0)) (da_cons (de_neg (de_glob (by rfl) M.c_MOST_STROKES)) (da_cons (de_glob (by rfl) M.c_MOST_STROKES) da_nil))) (len_cons (len_cons (len_cons len_nil)))))) (dss_one ds_bad) dss_nil))
def g_end_of_1 : D → En → Option En := (gTupD 2 (gCons (gN 1) (gCons (gN 2) gNil)))
def b_end_of_1 : En → O Fl := (dIf (dTst (dOp2 gGt (dFn gAbs (dCons (dVar 2) dNil)) (dOp2 gSub (dOp2 gSub (dFn gLen (dCons (dVar 0) dNil)) (dC (.int 1))) (dVar 1)))) (dRet (dTup (dCons (dOpA gAdd (dVar 1) (dC (.int 1))) (dCons (dVar 2) dNil)))) dSkip)
def φ_end_of : En → O R := fnD [0] 2 ((dSeq (dFor (dEnum (dCons (dVar 0) dNil)) g_end_of_1 b_end_of_1)
  (dRet (dTup (dCons (dFn gLen (dCons (dVar 0) dNil)) (dCons (dOpA gIx (dVar 0) (dUn gNeg (dC (.int 1)))) dNil))))))
theorem sc_end_of : FnScope N_end_of ["rows"] (defScope s_end_of) := ⟨rfl, rfl, rfl, by decide +kernel, rfl, by decide +kernel, by decide +kernel⟩
theorem ok_end_of (M : Md K mg) : FnOk P w K mg base (L2.CX P w) 1 M.f_end_of M.d_end_of ["rows"] (spD K T 1 φ_end_of) := by
  have sc := sc_end_of
  exact fn_ok (k := 0) (Pr := [0]) 1 2 M.F_end_of sc rfl rfl fun cdv A outer s H E hr =>
  (dss_cons (ds_for (passes_of rfl) rfl (di_enum (by rfl) M.n_enumerate (da_cons (de_var 0 (pv 0)) da_nil)) (dg_tup (n := 2) rfl (dgs_cons (dg_name (i := 1) sc.nd) (dgs_cons (dg_name (i := 2) sc.nd) dgs_nil))) (dss_one (ds_if (dt_gt (de_abs (by rfl) M.n_abs (da_cons (de_var 2 (pv 2)) da_nil)) (de_sub (de_sub (de_len (by rfl) M.n_len (da_cons (de_var 0 (pv 0)) da_nil)) de_int) (de_var 1 (pv 1)))) (dss_one (ds_ret (de_tup (da_cons (de_add (de_var 1 (pv 1)) de_int) (da_cons (de_var 2 (pv 2)) da_nil))))) dss_nil)))
  (dss_one (ds_ret (de_tup (da_cons (de_len (by rfl) M.n_len (da_cons (de_var 0 (pv 0)) da_nil)) (da_cons (de_ix (de_var 0 (pv 0)) (de_neg de_int)) da_nil))))))
def φ_sign : En → O R := fnD [0] 0 ((dRet (dOp2 gSub (dFn gInt (dCons (dOp2 gGt (dVar 0) (dC (.int 0))) dNil)) (dFn gInt (dCons (dOp2 gLt (dVar 0) (dC (.int 0))) dNil)))))
theorem sc_sign : FnScope N_sign ["number"] (defScope s_sign) := ⟨rfl, rfl, rfl, by decide +kernel, rfl, by decide +kernel, by decide +kernel⟩
theorem ok_sign (M : Md K mg) : FnOk P w K mg base (L2.CX P w) 1 M.f_sign M.d_sign ["number"] (spD K T 1 φ_sign) := by
  have sc := sc_sign
  exact fn_ok (k := 0) (Pr := [0]) 1 0 M.F_sign sc rfl rfl fun cdv A outer s H E hr =>
  (dss_one (ds_ret (de_sub (de_intF (by rfl) M.n_int (da_cons (de_gt (de_var 0 (pv 0)) de_int) da_nil)) (de_intF (by rfl) M.n_int (da_cons (de_lt (de_var 0 (pv 0)) de_int) da_nil)))))
def φ_at_hole : En → O R := fnD [0, 1, 2] 0 ((dSeq (dIf (dTst (dOp2 gLt (dVar 2) (dC (.int 0)))) (dRet (dUn gNeg (dOp2 gFdiv (dOp2 gSub (dOpA gAdd (dUn gNeg (dVar 2)) (dVar 0)) (dVar 1)) (dVar 0)))) dSkip)
  (dRet (dOp2 gFdiv (dOp2 gSub (dOpA gAdd (dVar 2) (dVar 0)) (dVar 1)) (dVar 0)))))
theorem sc_at_hole : FnScope N_at_hole ["count", "place", "strokes"] (defScope s_at_hole) := ⟨rfl, rfl, rfl, by decide +kernel, rfl, by decide +kernel, by decide +kernel⟩
theorem ok_at_hole (M : Md K mg) : FnOk P w K mg base (L2.CX P w) 1 M.f_at_hole M.d_at_hole ["count", "place", "strokes"] (spD K T 3 φ_at_hole) := by
  have sc := sc_at_hole
  exact fn_ok (k := 0) (Pr := [0, 1, 2]) 3 0 M.F_at_hole sc rfl rfl fun cdv A outer s H E hr =>
  (dss_cons (ds_if (dt_lt (de_var 2 (pv 2)) de_int) (dss_one (ds_ret (de_neg (de_fdiv (de_sub (de_add (de_neg (de_var 2 (pv 2))) (de_var 0 (pv 0))) (de_var 1 (pv 1))) (de_var 0 (pv 0)))))) dss_nil)
  (dss_one (ds_ret (de_fdiv (de_sub (de_add (de_var 2 (pv 2)) (de_var 0 (pv 0))) (de_var 1 (pv 1))) (de_var 0 (pv 0))))))
def φ_holes_of : En → O R := fnD [0, 1] 6 ((dSeq (dAsg (gTupD 3 (gCons (gN 2) (gCons (gN 3) (gCons (gN 4) gNil)))) (dVar 0))
  (dRet (dLC (dZip3 (dCons (dVar 2) (dCons (dVar 3) (dCons (dVar 4) dNil)))) (gTupD 3 (gCons (gN 5) (gCons (gN 6) (gCons (gN 7) gNil)))) dYes (dCall φ_sign [false] (dCons (dOpA gAdd (dOp2 gSub (dVar 6) (dVar 5)) (dCall φ_at_hole [false, false, false] (dCons (dFn gLen (dCons (dVar 4) dNil)) (dCons (dVar 7) (dCons (dVar 1) dNil))))) dNil)) [5, 6, 7]))))
theorem sc_holes_of : FnScope N_holes_of ["match", "strokes"] (defScope s_holes_of) := ⟨rfl, rfl, rfl, by decide +kernel, rfl, by decide +kernel, by decide +kernel⟩
theorem ok_holes_of (M : Md K mg) : FnOk P w K mg base (L2.CX P w) 2 M.f_holes_of M.d_holes_of ["match", "strokes"] (spD K T 2 φ_holes_of) := by
  have sc := sc_holes_of
  exact fn_ok (k := 1) (Pr := [0, 1]) 2 6 M.F_holes_of sc rfl rfl fun cdv A outer s H E hr =>
  (dss_cons (ds_asg (de_var 0 (pv 0)) (dg_tup (n := 3) rfl (dgs_cons (dg_name (i := 2) sc.nd) (dgs_cons (dg_name (i := 3) sc.nd) (dgs_cons (dg_name (i := 4) sc.nd) dgs_nil)))))
  (dss_one (ds_ret (de_lc (own := [("one", 5), ("two", 6), ("place", 7)]) rfl sc.nd (di_zip3 (by rfl) M.n_zip (da_cons (de_var 2 (pv 2)) (da_cons (de_var 3 (pv 3)) (da_cons (de_var 4 (pv 4)) da_nil)))) (blkOk_by (N := N_holes_of) (sc := defScope s_holes_of) (by decide +kernel)) (fun _ _ _ _ _ => (dg_tup (n := 3) rfl (dgs_cons (dg_name (i := 5) sc.nd) (dgs_cons (dg_name (i := 6) sc.nd) (dgs_cons (dg_name (i := 7) sc.nd) dgs_nil))))) (fun _ _ _ _ _ => dts_nil) (fun _ _ _ _ _ => (de_call [false] (ok_sign M) (hr.mono (by decide)) (by rfl) M.g_sign M.F_sign.kp M.b_sign takes0 (da_cons (de_add (de_sub (de_var 6 (pv 6)) (de_var 5 (pv 5))) (de_call [false, false, false] (ok_at_hole M) (hr.mono (by decide)) (by rfl) M.g_at_hole M.F_at_hole.kp M.b_at_hole takes0 (da_cons (de_len (by rfl) M.n_len (da_cons (de_var 4 (pv 4)) da_nil)) (da_cons (de_var 7 (pv 7)) (da_cons (de_var 1 (pv 1)) da_nil))) (len_cons (len_cons (len_cons len_nil))))) da_nil) (len_cons len_nil)))))))
def g_leads_of_1 : D → En → Option En := (gN 4)
def b_leads_of_1 : En → O Fl := (dSeq (dAug 3 gAddI (dVar 4))
  (dDrop (dM 2 isL mApp (dCons (dVar 3) dNil))))
def φ_leads_of : En → O R := fnD [0, 1] 3 ((dSeq (dPar 2 3 (dCons (dLst dNil) (dCons (dC (.int 0)) dNil)))
  (dSeq (dFor (dSeqI (dCall φ_holes_of [false, false] (dCons (dVar 0) (dCons (dVar 1) dNil)))) g_leads_of_1 b_leads_of_1)
  (dRet (dVar 2)))))
theorem sc_leads_of : FnScope N_leads_of ["match", "strokes"] (defScope s_leads_of) := ⟨rfl, rfl, rfl, by decide +kernel, rfl, by decide +kernel, by decide +kernel⟩
theorem ok_leads_of (M : Md K mg) : FnOk P w K mg base (L2.CX P w) 3 M.f_leads_of M.d_leads_of ["match", "strokes"] (spD K T 2 φ_leads_of) := by
  have sc := sc_leads_of
  exact fn_ok (k := 2) (Pr := [0, 1]) 2 3 M.F_leads_of sc rfl rfl fun cdv A outer s H E hr =>
  (dss_cons (ds_par (i := 2) (j := 3) rfl sc.nd (da_cons (de_lst da_nil) (da_cons de_int da_nil)) (by rfl))
  (dss_cons (ds_for (passes_of rfl) rfl (di_seq (de_call [false, false] (ok_holes_of M) (hr.mono (by decide)) (by rfl) M.g_holes_of M.F_holes_of.kp M.b_holes_of (takes_of rfl rfl rfl rfl) (da_cons (de_var 0 (pv 0)) (da_cons (de_var 1 (pv 1)) da_nil)) (len_cons (len_cons len_nil)))) (dg_name (i := 4) sc.nd) (dss_cons (ds_augAdd (i := 3) sc.nd (de_var 4 (pv 4)))
  (dss_one (ds_expr (de_m (i := 2) (kd := isL) PySem.F.plainAttrs_list PySem.F.slot_list_append PySem.F.type_list_append mt_append mt_app tyL (pv 2) (da_cons (de_var 3 (pv 3)) da_nil))))))
  (dss_one (ds_ret (de_var 2 (pv 2))))))
def φ_word_for : En → O R := fnD [0, 1, 2] 0 ((dSeq (dIf (dTst (dOp2 gEq (dVar 2) (dC (.int 0)))) (dRet (dC (.str "halved"))) dSkip)
  (dSeq (dIf (dTst (dOp2 gEq (dVar 1) (dVar 0))) (dRet (dJoin [(dFmt (dFn gAbs (dCons (dVar 2) dNil))), (dLit " up")])) dSkip)
  (dRet (dJoin [(dFmt (dFn gAbs (dCons (dVar 2) dNil))), (dLit "&"), (dFmt (dOp2 gSub (dVar 0) (dVar 1)))])))))
theorem sc_word_for : FnScope N_word_for ["count", "played", "lead"] (defScope s_word_for) := ⟨rfl, rfl, rfl, by decide +kernel, rfl, by decide +kernel, by decide +kernel⟩
theorem ok_word_for (M : Md K mg) : FnOk P w K mg base (L2.CX P w) 1 M.f_word_for M.d_word_for ["count", "played", "lead"] (spD K T 3 φ_word_for) := by
  have sc := sc_word_for
  exact fn_ok (k := 0) (Pr := [0, 1, 2]) 3 0 M.F_word_for sc rfl rfl fun cdv A outer s H E hr =>
  (dss_cons (ds_if (dt_eq hr.units (de_var 2 (pv 2)) de_int) (dss_one (ds_ret de_str)) dss_nil)
  (dss_cons (ds_if (dt_eq hr.units (de_var 1 (pv 1)) (de_var 0 (pv 0))) (dss_one (ds_ret (de_join (DJ.cons (dp_fmt (de_abs (by rfl) M.n_abs (da_cons (de_var 2 (pv 2)) da_nil))) short_fmt (DJ.cons dp_lit short_lit DJ.nil))))) dss_nil)
  (dss_one (ds_ret (de_join (DJ.cons (dp_fmt (de_abs (by rfl) M.n_abs (da_cons (de_var 2 (pv 2)) da_nil))) short_fmt (DJ.cons dp_lit short_lit (DJ.cons (dp_fmt (de_sub (de_var 0 (pv 0)) (de_var 1 (pv 1)))) short_fmt DJ.nil))))))))
def φ_ending : En → O R := fnD [0, 1] 2 ((dSeq (dDrop (dCall φ_need_match [false] (dCons (dVar 0) dNil)))
  (dSeq (dDrop (dCall φ_need_strokes [false] (dCons (dVar 1) dNil)))
  (dSeq (dAsg (gTupD 2 (gCons (gN 2) (gCons (gN 3) gNil))) (dCall φ_end_of [false] (dCons (dCall φ_leads_of [false, false] (dCons (dVar 0) (dCons (dVar 1) dNil))) dNil)))
  (dRet (dTup (dCons (dOp2 gSub (dFn gInt (dCons (dOp2 gGt (dVar 3) (dC (.int 0))) dNil)) (dFn gInt (dCons (dOp2 gLt (dVar 3) (dC (.int 0))) dNil))) (dCons (dCall φ_word_for [false, false, false] (dCons (dFn gLen (dCons (dOpA gIx (dVar 0) (dC (.int 2))) dNil)) (dCons (dVar 2) (dCons (dVar 3) dNil)))) dNil))))))))
theorem sc_ending : FnScope N_ending ["match", "strokes"] (defScope s_ending) := ⟨rfl, rfl, rfl, by decide +kernel, rfl, by decide +kernel, by decide +kernel⟩
theorem ok_ending (M : Md K mg) : FnOk P w K mg base (L2.CX P w) 5 M.f_ending M.d_ending ["match", "strokes"] (spD K T 2 φ_ending) := by
  have sc := sc_ending
  exact fn_ok (k := 4) (Pr := [0, 1]) 2 2 M.F_ending sc rfl rfl fun cdv A outer s H E hr =>
  (dss_cons (ds_expr (de_call [false] (ok_need_match M) (hr.mono (by decide)) (by rfl) M.g_need_match M.F_need_match.kp M.b_need_match (takes_of rfl rfl rfl rfl) (da_cons (de_var 0 (pv 0)) da_nil) (len_cons len_nil)))
  (dss_cons (ds_expr (de_call [false] (ok_need_strokes M) (hr.mono (by decide)) (by rfl) M.g_need_strokes M.F_need_strokes.kp M.b_need_strokes (takes_of rfl rfl rfl rfl) (da_cons (de_var 1 (pv 1)) da_nil) (len_cons len_nil)))
  (dss_cons (ds_asg (de_call [false] (ok_end_of M) (hr.mono (by decide)) (by rfl) M.g_end_of M.F_end_of.kp M.b_end_of (takes_of rfl rfl rfl rfl) (da_cons (de_call [false, false] (ok_leads_of M) (hr.mono (by decide)) (by rfl) M.g_leads_of M.F_leads_of.kp M.b_leads_of (takes_of rfl rfl rfl rfl) (da_cons (de_var 0 (pv 0)) (da_cons (de_var 1 (pv 1)) da_nil)) (len_cons (len_cons len_nil))) da_nil) (len_cons len_nil)) (dg_tup (n := 2) rfl (dgs_cons (dg_name (i := 2) sc.nd) (dgs_cons (dg_name (i := 3) sc.nd) dgs_nil))))
  (dss_one (ds_ret (de_tup (da_cons (de_sub (de_intF (by rfl) M.n_int (da_cons (de_gt (de_var 3 (pv 3)) de_int) da_nil)) (de_intF (by rfl) M.n_int (da_cons (de_lt (de_var 3 (pv 3)) de_int) da_nil))) (da_cons (de_call [false, false, false] (ok_word_for M) (hr.mono (by decide)) (by rfl) M.g_word_for M.F_word_for.kp M.b_word_for (takes_of rfl rfl rfl rfl) (da_cons (de_len (by rfl) M.n_len (da_cons (de_ix (de_var 0 (pv 0)) de_int) da_nil)) (da_cons (de_var 2 (pv 2)) (da_cons (de_var 3 (pv 3)) da_nil))) (len_cons (len_cons (len_cons len_nil)))) da_nil))))))))
def φ__law_pick : En → O R := fnD [0, 1] 2 ((dSeq (dIf (dTst (dOp2 gGt (dOpA gIx (dVar 0) (dC (.int 0))) (dC (.int 1)))) (dSeq (dSet 2 (dOp2 gMod (dOpA gIx (dVar 0) (dC (.int 0))) (dVar 1)))
  (dSeq (dAsg (gSubL 0 (dC (.int 0))) (dOp2 gFdiv (dOpA gIx (dVar 0) (dC (.int 0))) (dVar 1)))
  (dRet (dVar 2)))) dSkip)
  (dSeq (dAsg (gSubL 0 (dC (.int 2))) (dOpA gAdd (dOpA gIx (dVar 0) (dC (.int 2))) (dC (.int 1))))
  (dSeq (dSet 3 (dOp2 gMod (dOp2 gPow (dOpA gAdd (dOpA gIx (dVar 0) (dC (.int 1))) (dMul (dC (.int 15485867)) (dOpA gIx (dVar 0) (dC (.int 2))))) (dC (.int 5))) (dC (.int 2147483647))))
  (dSeq (dSet 2 (dOp2 gFdiv (dOp2 gMod (dOp2 gPow (dOpA gAdd (dVar 3) (dMul (dC (.int 7919)) (dOpA gIx (dVar 0) (dC (.int 2))))) (dC (.int 3))) (dC (.int 2147483629))) (dC (.int 32))))
  (dSeq (dIf (dTst (dOp2 gGt (dVar 1) (dC (.int 1000000)))) (dRet (dOp2 gMod (dOpA gAdd (dMul (dVar 2) (dC (.int 2147483563))) (dVar 3)) (dVar 1))) dSkip)
  (dRet (dOp2 gMod (dVar 2) (dVar 1)))))))))
theorem sc__law_pick : FnScope N__law_pick ["_law_deck_here", "_law_limit"] (defScope s__law_pick) := ⟨rfl, rfl, rfl, by decide +kernel, rfl, by decide +kernel, by decide +kernel⟩
theorem ok__law_pick (M : Md K mg) : FnOk P w K mg base (L2.CX P w) 1 M.f__law_pick M.d__law_pick ["_law_deck_here", "_law_limit"] (spD K T 2 φ__law_pick) := by
  have sc := sc__law_pick
  exact fn_ok (k := 0) (Pr := [0, 1]) 2 2 M.F__law_pick sc rfl rfl fun cdv A outer s H E hr =>
  (dss_cons (ds_if (dt_gt (de_ix (de_var 0 (pv 0)) de_int) de_int) (dss_cons (ds_set (i := 2) sc.nd (de_mod (de_ix (de_var 0 (pv 0)) de_int) (de_var 1 (pv 1))))
  (dss_cons (ds_asg (de_fdiv (de_ix (de_var 0 (pv 0)) de_int) (de_var 1 (pv 1))) (dg_subL (W := W0) 0 (pv 0) de_int))
  (dss_one (ds_ret (de_var 2 (pv 2)))))) dss_nil)
  (dss_cons (ds_asg (de_add (de_ix (de_var 0 (pv 0)) de_int) de_int) (dg_subL (W := W0) 0 (pv 0) de_int))
  (dss_cons (ds_set (i := 3) sc.nd (de_mod (de_pow (de_add (de_ix (de_var 0 (pv 0)) de_int) (de_mul de_int (de_ix (de_var 0 (pv 0)) de_int))) de_int) de_int))
  (dss_cons (ds_set (i := 2) sc.nd (de_fdiv (de_mod (de_pow (de_add (de_var 3 (pv 3)) (de_mul de_int (de_ix (de_var 0 (pv 0)) de_int))) de_int) de_int) de_int))
  (dss_cons (ds_if (dt_gt (de_var 1 (pv 1)) de_int) (dss_one (ds_ret (de_mod (de_add (de_mul (de_var 2 (pv 2)) de_int) (de_var 3 (pv 3))) (de_var 1 (pv 1))))) dss_nil)
  (dss_one (ds_ret (de_mod (de_var 2 (pv 2)) (de_var 1 (pv 1))))))))))
def φ__law_deck : En → O R := fnD [0, 1] 0 ((dSeq (dIf (dTst (dOp2 gGe (dVar 0) (dOp2 gPow (dC (.int 10)) (dC (.int 18))))) (dRet (dLst (dCons (dOp2 gSub (dVar 0) (dOp2 gPow (dC (.int 10)) (dC (.int 18)))) (dCons (dOp2 gMod (dVar 0) (dC (.int 2147483579))) (dCons (dVar 1) dNil))))) dSkip)
  (dRet (dLst (dCons (dC (.int 0)) (dCons (dOp2 gMod (dVar 0) (dC (.int 2147483579))) (dCons (dVar 1) dNil)))))))
theorem sc__law_deck : FnScope N__law_deck ["_law_cell", "_law_turn"] (defScope s__law_deck) := ⟨rfl, rfl, rfl, by decide +kernel, rfl, by decide +kernel, by decide +kernel⟩
theorem ok__law_deck (M : Md K mg) : FnOk P w K mg base (L2.CX P w) 1 M.f__law_deck M.d__law_deck ["_law_cell", "_law_turn"] (spD K T 2 φ__law_deck) := by
  have sc := sc__law_deck
  exact fn_ok (k := 0) (Pr := [0, 1]) 2 0 M.F__law_deck sc rfl rfl fun cdv A outer s H E hr =>
  (dss_cons (ds_if (dt_ge (de_var 0 (pv 0)) (de_pow de_int de_int)) (dss_one (ds_ret (de_lst (da_cons (de_sub (de_var 0 (pv 0)) (de_pow de_int de_int)) (da_cons (de_mod (de_var 0 (pv 0)) de_int) (da_cons (de_var 1 (pv 1)) da_nil)))))) dss_nil)
  (dss_one (ds_ret (de_lst (da_cons de_int (da_cons (de_mod (de_var 0 (pv 0)) de_int) (da_cons (de_var 1 (pv 1)) da_nil)))))))
def φ_step : En → O R := fnD [0, 1, 2] 0 ((dSeq (dIf (dTst (dOp2 gGt (dVar 2) (dC (.int 0)))) (dRet (dOpA gAdd (dMul (dOp2 gSub (dVar 2) (dC (.int 1))) (dVar 0)) (dVar 1))) dSkip)
  (dRet (dOpA gAdd (dOp2 gSub (dMul (dVar 2) (dVar 0)) (dVar 1)) (dC (.int 1))))))
theorem sc_step : FnScope N_step ["count", "place", "strokes"] (defScope s_step) := ⟨rfl, rfl, rfl, by decide +kernel, rfl, by decide +kernel, by decide +kernel⟩
theorem ok_step (M : Md K mg) : FnOk P w K mg base (L2.CX P w) 1 M.f_step M.d_step ["count", "place", "strokes"] (spD K T 3 φ_step) := by
  have sc := sc_step
  exact fn_ok (k := 0) (Pr := [0, 1, 2]) 3 0 M.F_step sc rfl rfl fun cdv A outer s H E hr =>
  (dss_cons (ds_if (dt_gt (de_var 2 (pv 2)) de_int) (dss_one (ds_ret (de_add (de_mul (de_sub (de_var 2 (pv 2)) de_int) (de_var 0 (pv 0))) (de_var 1 (pv 1))))) dss_nil)
  (dss_one (ds_ret (de_add (de_sub (de_mul (de_var 2 (pv 2)) (de_var 0 (pv 0))) (de_var 1 (pv 1))) de_int))))
def g_differences_of_1 : D → En → Option En := (gN 3)
def b_differences_of_1 : En → O Fl := (dSeq (dSet 4 (dLC (dRng2 (dCons (dOp2 gSub (dC (.int 1)) (dC (.int 15))) (dCons (dOpA gAdd (dC (.int 15)) (dC (.int 1))) dNil))) (gN 5) (dTst (dOp2 (gIn false) (dCall φ_step [false, false, false] (dCons (dVar 1) (dCons (dVar 3) (dCons (dVar 5) dNil)))) (dVar 0))) (dVar 5) [5]))
  (dSeq (dIf (dOr (dTst (dOp2 gNe (dFn gLen (dCons (dVar 4) dNil)) (dC (.int 2)))) (dTst (dOp2 gNe (dOpA gIx (dVar 4) (dC (.int 1))) (dOpA gAdd (dOpA gIx (dVar 4) (dC (.int 0))) (dC (.int 1)))))) (dRet (dC .non)) dSkip)
  (dDrop (dM 2 isL mApp (dCons (dOpA gIx (dVar 4) (dC (.int 0))) dNil)))))
def φ_differences_of : En → O R := fnD [0] 7 ((dSeq (dIf (dOr (dNot (dTru (dFn gIsi5 (dCons (dVar 0) (dCons (dC (.ty "tuple")) dNil))))) (dOr (dTst (dOp2 gNe (dOp2 gMod (dFn gLen (dCons (dVar 0) dNil)) (dC (.int 2))) (dC (.int 0)))) (dNot (dTst (dCh gLe gLe (dC (.int 1)) (dOp2 gFdiv (dFn gLen (dCons (dVar 0) dNil)) (dC (.int 2))) (dC (.int 18))))))) (dRet (dC .non)) dSkip)
  (dSeq (dIf (dNot (dTru (dFn gAll (dCons (dLC (dSeqI (dVar 0)) (gN 6) dYes (dCall φ_is_from [false, false, false] (dCons (dVar 6) (dCons (dUn gNeg (dOp2 gPow (dC (.int 10)) (dC (.int 6)))) (dCons (dOp2 gPow (dC (.int 10)) (dC (.int 6))) dNil)))) [6]) dNil)))) (dRet (dC .non)) dSkip)
  (dSeq (dIf (dNot (dTru (dFn gAll (dCons (dLC (dZip2 (dCons (dVar 0) (dCons (dSl (dVar 0) (dOS (dC (.int 1))) dON) dNil))) (gTupD 2 (gCons (gN 6) (gCons (gN 7) gNil))) dYes (dOp2 gLt (dVar 6) (dVar 7)) [6, 7]) dNil)))) (dRet (dC .non)) dSkip)
  (dSeq (dPar 1 2 (dCons (dOp2 gFdiv (dFn gLen (dCons (dVar 0) dNil)) (dC (.int 2))) (dCons (dLst dNil) dNil)))
  (dSeq (dFor (dRng2 (dCons (dC (.int 1)) (dCons (dOpA gAdd (dVar 1) (dC (.int 1))) dNil))) g_differences_of_1 b_differences_of_1)
  (dRet (dVar 2))))))))
theorem sc_differences_of : FnScope N_differences_of ["value"] (defScope s_differences_of) := ⟨rfl, rfl, rfl, by decide +kernel, rfl, by decide +kernel, by decide +kernel⟩
theorem ok_differences_of (M : Md K mg) : FnOk P w K mg base (L2.CX P w) 2 M.f_differences_of M.d_differences_of ["value"] (spD K T 1 φ_differences_of) := by
  have sc := sc_differences_of
  exact fn_ok (k := 1) (Pr := [0]) 1 7 M.F_differences_of sc rfl rfl fun cdv A outer s H E hr =>
  (dss_cons (ds_if (dt_bool (dw_or (dt_not (dt_tru (de_isi (by rfl) M.n_isinstance (da_cons (de_var 0 (pv 0)) (da_cons (de_ty (by rfl) M.n_tuple) da_nil))))) (dw_or (dt_ne hr.units (de_mod (de_len (by rfl) M.n_len (da_cons (de_var 0 (pv 0)) da_nil)) de_int) de_int) (dw_or1 (dt_not (dt_lele de_int (de_fdiv (de_len (by rfl) M.n_len (da_cons (de_var 0 (pv 0)) da_nil)) de_int) (de_glob (by rfl) M.c_MOST_HOLES))))))) (dss_one (ds_ret de_non)) dss_nil)
  (dss_cons (ds_if (dt_not (dt_tru (de_all rfl (by rfl) M.n_all (da_cons (de_lc (own := [("one", 6)]) rfl sc.nd (di_seq (de_var 0 (pv 0))) (blkOk_by (N := N_differences_of) (sc := defScope s_differences_of) (by decide +kernel)) (fun _ _ _ _ _ => (dg_name (i := 6) sc.nd)) (fun _ _ _ _ _ => dts_nil) (fun _ _ _ _ _ => (de_call [false, false, false] (ok_is_from M) (hr.mono (by decide)) (by rfl) M.g_is_from M.F_is_from.kp M.b_is_from takes0 (da_cons (de_var 6 (pv 6)) (da_cons (de_neg (de_pow de_int de_int)) (da_cons (de_pow de_int de_int) da_nil))) (len_cons (len_cons (len_cons len_nil)))))) da_nil)))) (dss_one (ds_ret de_non)) dss_nil)
  (dss_cons (ds_if (dt_not (dt_tru (de_all rfl (by rfl) M.n_all (da_cons (de_lc (own := [("one", 6), ("other", 7)]) rfl sc.nd (di_zip2 (by rfl) M.n_zip (da_cons (de_var 0 (pv 0)) (da_cons (de_slice (de_var 0 (pv 0)) (do_some de_int) do_none) da_nil))) (blkOk_by (N := N_differences_of) (sc := defScope s_differences_of) (by decide +kernel)) (fun _ _ _ _ _ => (dg_tup (n := 2) rfl (dgs_cons (dg_name (i := 6) sc.nd) (dgs_cons (dg_name (i := 7) sc.nd) dgs_nil)))) (fun _ _ _ _ _ => dts_nil) (fun _ _ _ _ _ => (de_lt (de_var 6 (pv 6)) (de_var 7 (pv 7))))) da_nil)))) (dss_one (ds_ret de_non)) dss_nil)
  (dss_cons (ds_parC (i := 1) (j := 2) rfl sc.nd (da_cons (de_fdiv (de_len (by rfl) M.n_len (da_cons (de_var 0 (pv 0)) da_nil)) de_int) (da_cons (de_lst da_nil) da_nil)))
  (dss_cons (ds_for (passes_of rfl) rfl (di_range2 (by rfl) M.n_range (da_cons de_int (da_cons (de_add (de_var 1 (pv 1)) de_int) da_nil))) (dg_name (i := 3) sc.nd) (dss_cons (ds_setLc (i := 4) (own := [("more", 5)]) rfl sc.nd (sw_true rfl rfl rfl (by decide +kernel)) (di_range2 (by rfl) M.n_range (da_cons (de_sub de_int (de_glob (by rfl) M.c_HIGHEST)) (da_cons (de_add (de_glob (by rfl) M.c_HIGHEST) de_int) da_nil))) (blkOk_by (N := N_differences_of) (sc := defScope s_differences_of) (by decide +kernel)) (fun _ _ _ _ _ => (dg_name (i := 5) sc.nd)) (fun _ _ _ _ _ => (dts_one (dt_in (de_call [false, false, false] (ok_step M) (hr.mono (by decide)) (by rfl) M.g_step M.F_step.kp M.b_step takes0 (da_cons (de_var 1 (pv 1)) (da_cons (de_var 3 (pv 3)) (da_cons (de_var 5 (pv 5)) da_nil))) (len_cons (len_cons (len_cons len_nil)))) (de_var 0 (pv 0))))) (fun _ _ _ _ _ => (de_var 5 (pv 5))))
  (dss_cons (ds_if (dt_bool (dw_or (dt_ne hr.units (de_len (by rfl) M.n_len (da_cons (de_var 4 (pv 4)) da_nil)) de_int) (dw_or1 (dt_ne hr.units (de_ix (de_var 4 (pv 4)) de_int) (de_add (de_ix (de_var 4 (pv 4)) de_int) de_int))))) (dss_one (ds_ret de_non)) dss_nil)
  (dss_one (ds_expr (de_m (i := 2) (kd := isL) PySem.F.plainAttrs_list PySem.F.slot_list_append PySem.F.type_list_append mt_append mt_app tyL (pv 2) (da_cons (de_ix (de_var 4 (pv 4)) de_int) da_nil)))))))
  (dss_one (ds_ret (de_var 2 (pv 2)))))))))
def φ_is_stairs : En → O R := fnD [0] 0 ((dRet (dIsN true (dCall φ_differences_of [false] (dCons (dVar 0) dNil)))))
theorem sc_is_stairs : FnScope N_is_stairs ["value"] (defScope s_is_stairs) := ⟨rfl, rfl, rfl, by decide +kernel, rfl, by decide +kernel, by decide +kernel⟩
theorem ok_is_stairs (M : Md K mg) : FnOk P w K mg base (L2.CX P w) 3 M.f_is_stairs M.d_is_stairs ["value"] (spD K T 1 φ_is_stairs) := by
  have sc := sc_is_stairs
  exact fn_ok (k := 2) (Pr := [0]) 1 0 M.F_is_stairs sc rfl rfl fun cdv A outer s H E hr =>
  (dss_one (ds_ret (de_notN (de_call [false] (ok_differences_of M) (hr.mono (by decide)) (by rfl) M.g_differences_of M.F_differences_of.kp M.b_differences_of (takes_of rfl rfl rfl rfl) (da_cons (de_var 0 (pv 0)) da_nil) (len_cons len_nil)))))
def φ_strokes_at : En → O R := fnD [0, 1] 1 ((dSeq (dDrop (dCall φ_need_match [false] (dCons (dVar 0) dNil)))
  (dSeq (dDrop (dCall φ_need_strokes [false] (dCons (dVar 1) dNil)))
  (dRet (dLC (dSeqI (dOpA gIx (dVar 0) (dC (.int 2)))) (gN 2) dYes (dCall φ_at_hole [false, false, false] (dCons (dFn gLen (dCons (dOpA gIx (dVar 0) (dC (.int 2))) dNil)) (dCons (dVar 2) (dCons (dVar 1) dNil)))) [2])))))
theorem sc_strokes_at : FnScope N_strokes_at ["match", "strokes"] (defScope s_strokes_at) := ⟨rfl, rfl, rfl, by decide +kernel, rfl, by decide +kernel, by decide +kernel⟩
theorem ok_strokes_at (M : Md K mg) : FnOk P w K mg base (L2.CX P w) 5 M.f_strokes_at M.d_strokes_at ["match", "strokes"] (spD K T 2 φ_strokes_at) := by
  have sc := sc_strokes_at
  exact fn_ok (k := 4) (Pr := [0, 1]) 2 1 M.F_strokes_at sc rfl rfl fun cdv A outer s H E hr =>
  (dss_cons (ds_expr (de_call [false] (ok_need_match M) (hr.mono (by decide)) (by rfl) M.g_need_match M.F_need_match.kp M.b_need_match (takes_of rfl rfl rfl rfl) (da_cons (de_var 0 (pv 0)) da_nil) (len_cons len_nil)))
  (dss_cons (ds_expr (de_call [false] (ok_need_strokes M) (hr.mono (by decide)) (by rfl) M.g_need_strokes M.F_need_strokes.kp M.b_need_strokes (takes_of rfl rfl rfl rfl) (da_cons (de_var 1 (pv 1)) da_nil) (len_cons len_nil)))
  (dss_one (ds_ret (de_lc (own := [("place", 2)]) rfl sc.nd (di_seq (de_ix (de_var 0 (pv 0)) de_int)) (blkOk_by (N := N_strokes_at) (sc := defScope s_strokes_at) (by decide +kernel)) (fun _ _ _ _ _ => (dg_name (i := 2) sc.nd)) (fun _ _ _ _ _ => dts_nil) (fun _ _ _ _ _ => (de_call [false, false, false] (ok_at_hole M) (hr.mono (by decide)) (by rfl) M.g_at_hole M.F_at_hole.kp M.b_at_hole takes0 (da_cons (de_len (by rfl) M.n_len (da_cons (de_ix (de_var 0 (pv 0)) de_int) da_nil)) (da_cons (de_var 2 (pv 2)) (da_cons (de_var 1 (pv 1)) da_nil))) (len_cons (len_cons (len_cons len_nil))))))))))
def g_stairs_of_1 : D → En → Option En := (gTupD 3 (gCons (gN 5) (gCons (gN 6) (gCons (gN 7) gNil))))
def b_stairs_of_1 : En → O Fl := (dSeq (dDrop (dM 4 isL mApp (dCons (dCall φ_step [false, false, false] (dCons (dFn gLen (dCons (dVar 3) dNil)) (dCons (dVar 7) (dCons (dOp2 gSub (dVar 5) (dVar 6)) dNil)))) dNil)))
  (dDrop (dM 4 isL mApp (dCons (dCall φ_step [false, false, false] (dCons (dFn gLen (dCons (dVar 3) dNil)) (dCons (dVar 7) (dCons (dOpA gAdd (dOp2 gSub (dVar 5) (dVar 6)) (dC (.int 1))) dNil)))) dNil))))
def φ_stairs_of : En → O R := fnD [0] 7 ((dSeq (dAsg (gTupD 3 (gCons (gN 1) (gCons (gN 2) (gCons (gN 3) gNil)))) (dVar 0))
  (dSeq (dSet 4 (dLst dNil))
  (dSeq (dFor (dZip3 (dCons (dVar 1) (dCons (dVar 2) (dCons (dVar 3) dNil)))) g_stairs_of_1 b_stairs_of_1)
  (dRet (dFn gSorted (dCons (dVar 4) dNil)))))))
theorem sc_stairs_of : FnScope N_stairs_of ["match"] (defScope s_stairs_of) := ⟨rfl, rfl, rfl, by decide +kernel, rfl, by decide +kernel, by decide +kernel⟩
theorem ok_stairs_of (M : Md K mg) : FnOk P w K mg base (L2.CX P w) 2 M.f_stairs_of M.d_stairs_of ["match"] (spD K T 1 φ_stairs_of) := by
  have sc := sc_stairs_of
  exact fn_ok (k := 1) (Pr := [0]) 1 7 M.F_stairs_of sc rfl rfl fun cdv A outer s H E hr =>
  (dss_cons (ds_asg (de_var 0 (pv 0)) (dg_tup (n := 3) rfl (dgs_cons (dg_name (i := 1) sc.nd) (dgs_cons (dg_name (i := 2) sc.nd) (dgs_cons (dg_name (i := 3) sc.nd) dgs_nil)))))
  (dss_cons (ds_set (i := 4) sc.nd (de_lst da_nil))
  (dss_cons (ds_for (passes_of rfl) rfl (di_zip3 (by rfl) M.n_zip (da_cons (de_var 1 (pv 1)) (da_cons (de_var 2 (pv 2)) (da_cons (de_var 3 (pv 3)) da_nil)))) (dg_tup (n := 3) rfl (dgs_cons (dg_name (i := 5) sc.nd) (dgs_cons (dg_name (i := 6) sc.nd) (dgs_cons (dg_name (i := 7) sc.nd) dgs_nil)))) (dss_cons (ds_expr (de_m (i := 4) (kd := isL) PySem.F.plainAttrs_list PySem.F.slot_list_append PySem.F.type_list_append mt_append mt_app tyL (pv 4) (da_cons (de_call [false, false, false] (ok_step M) (hr.mono (by decide)) (by rfl) M.g_step M.F_step.kp M.b_step (takes_of rfl rfl rfl rfl) (da_cons (de_len (by rfl) M.n_len (da_cons (de_var 3 (pv 3)) da_nil)) (da_cons (de_var 7 (pv 7)) (da_cons (de_sub (de_var 5 (pv 5)) (de_var 6 (pv 6))) da_nil))) (len_cons (len_cons (len_cons len_nil)))) da_nil)))
  (dss_one (ds_expr (de_m (i := 4) (kd := isL) PySem.F.plainAttrs_list PySem.F.slot_list_append PySem.F.type_list_append mt_append mt_app tyL (pv 4) (da_cons (de_call [false, false, false] (ok_step M) (hr.mono (by decide)) (by rfl) M.g_step M.F_step.kp M.b_step (takes_of rfl rfl rfl rfl) (da_cons (de_len (by rfl) M.n_len (da_cons (de_var 3 (pv 3)) da_nil)) (da_cons (de_var 7 (pv 7)) (da_cons (de_add (de_sub (de_var 5 (pv 5)) (de_var 6 (pv 6))) de_int) da_nil))) (len_cons (len_cons (len_cons len_nil)))) da_nil))))))
  (dss_one (ds_ret (de_sorted (by rfl) M.n_sorted (da_cons (de_var 4 (pv 4)) da_nil)))))))
def φ_stairs : En → O R := fnD [0] 0 ((dSeq (dDrop (dCall φ_need_match [false] (dCons (dVar 0) dNil)))
  (dRet (dCall φ_stairs_of [false] (dCons (dVar 0) dNil)))))
theorem sc_stairs : FnScope N_stairs ["match"] (defScope s_stairs) := ⟨rfl, rfl, rfl, by decide +kernel, rfl, by decide +kernel, by decide +kernel⟩
theorem ok_stairs (M : Md K mg) : FnOk P w K mg base (L2.CX P w) 5 M.f_stairs M.d_stairs ["match"] (spD K T 1 φ_stairs) := by
  have sc := sc_stairs
  exact fn_ok (k := 4) (Pr := [0]) 1 0 M.F_stairs sc rfl rfl fun cdv A outer s H E hr =>
  (dss_cons (ds_expr (de_call [false] (ok_need_match M) (hr.mono (by decide)) (by rfl) M.g_need_match M.F_need_match.kp M.b_need_match (takes_of rfl rfl rfl rfl) (da_cons (de_var 0 (pv 0)) da_nil) (len_cons len_nil)))
  (dss_one (ds_ret (de_call [false] (ok_stairs_of M) (hr.mono (by decide)) (by rfl) M.g_stairs_of M.F_stairs_of.kp M.b_stairs_of (takes_of rfl rfl rfl rfl) (da_cons (de_var 0 (pv 0)) da_nil) (len_cons len_nil)))))
def φ_range_for : En → O R := fnD [0, 1] 2 ((dSeq (dSet 2 (dOpA gAdd (dVar 1) (dOp2 gFdiv (dFn gLen (dCons (dVar 0) dNil)) (dC (.int 2)))))
  (dSeq (dSet 3 (dIfE (dTst (dOp2 gGt (dVar 2) (dC (.int 0)))) (dOpA gIx (dVar 0) (dOp2 gSub (dVar 2) (dC (.int 1)))) (dC .non)))
  (dRet (dTup (dCons (dVar 3) (dCons (dIfE (dTst (dOp2 gLt (dVar 2) (dFn gLen (dCons (dVar 0) dNil)))) (dOp2 gSub (dOpA gIx (dVar 0) (dVar 2)) (dC (.int 1))) (dC .non)) dNil)))))))
theorem sc_range_for : FnScope N_range_for ["rows", "wished"] (defScope s_range_for) := ⟨rfl, rfl, rfl, by decide +kernel, rfl, by decide +kernel, by decide +kernel⟩
theorem ok_range_for (M : Md K mg) : FnOk P w K mg base (L2.CX P w) 1 M.f_range_for M.d_range_for ["rows", "wished"] (spD K T 2 φ_range_for) := by
  have sc := sc_range_for
  exact fn_ok (k := 0) (Pr := [0, 1]) 2 2 M.F_range_for sc rfl rfl fun cdv A outer s H E hr =>
  (dss_cons (ds_set (i := 2) sc.nd (de_add (de_var 1 (pv 1)) (de_fdiv (de_len (by rfl) M.n_len (da_cons (de_var 0 (pv 0)) da_nil)) de_int)))
  (dss_cons (ds_set (i := 3) sc.nd (de_ifE (dt_gt (de_var 2 (pv 2)) de_int) (de_ix (de_var 0 (pv 0)) (de_sub (de_var 2 (pv 2)) de_int)) de_non))
  (dss_one (ds_ret (de_tup (da_cons (de_var 3 (pv 3)) (da_cons (de_ifE (dt_lt (de_var 2 (pv 2)) (de_len (by rfl) M.n_len (da_cons (de_var 0 (pv 0)) da_nil))) (de_sub (de_ix (de_var 0 (pv 0)) (de_var 2 (pv 2))) de_int) de_non) da_nil)))))))
def φ_halved : En → O R := fnD [0] 0 ((dSeq (dDrop (dCall φ_need_match [false] (dCons (dVar 0) dNil)))
  (dRet (dCall φ_range_for [false, false] (dCons (dCall φ_stairs_of [false] (dCons (dVar 0) dNil)) (dCons (dC (.int 0)) dNil))))))
theorem sc_halved : FnScope N_halved ["match"] (defScope s_halved) := ⟨rfl, rfl, rfl, by decide +kernel, rfl, by decide +kernel, by decide +kernel⟩
theorem ok_halved (M : Md K mg) : FnOk P w K mg base (L2.CX P w) 5 M.f_halved M.d_halved ["match"] (spD K T 1 φ_halved) := by
  have sc := sc_halved
  exact fn_ok (k := 4) (Pr := [0]) 1 0 M.F_halved sc rfl rfl fun cdv A outer s H E hr =>
  (dss_cons (ds_expr (de_call [false] (ok_need_match M) (hr.mono (by decide)) (by rfl) M.g_need_match M.F_need_match.kp M.b_need_match (takes_of rfl rfl rfl rfl) (da_cons (de_var 0 (pv 0)) da_nil) (len_cons len_nil)))
  (dss_one (ds_ret (de_call [false, false] (ok_range_for M) (hr.mono (by decide)) (by rfl) M.g_range_for M.F_range_for.kp M.b_range_for (takes_of rfl rfl rfl rfl) (da_cons (de_call [false] (ok_stairs_of M) (hr.mono (by decide)) (by rfl) M.g_stairs_of M.F_stairs_of.kp M.b_stairs_of (takes_of rfl rfl rfl rfl) (da_cons (de_var 0 (pv 0)) da_nil) (len_cons len_nil)) (da_cons de_int da_nil)) (len_cons (len_cons len_nil))))))
def φ_strokes_for : En → O R := fnD [0, 1] 0 ((dSeq (dDrop (dCall φ_need_match [false] (dCons (dVar 0) dNil)))
  (dSeq (dIf (dNot (dTru (dCall φ_is_from [false, false, false] (dCons (dVar 1) (dCons (dUn gNeg (dFn gLen (dCons (dOpA gIx (dVar 0) (dC (.int 2))) dNil))) (dCons (dFn gLen (dCons (dOpA gIx (dVar 0) (dC (.int 2))) dNil)) dNil)))))) (fun _ => .bad) dSkip)
  (dRet (dCall φ_range_for [false, false] (dCons (dCall φ_stairs_of [false] (dCons (dVar 0) dNil)) (dCons (dVar 1) dNil)))))))
theorem sc_strokes_for : FnScope N_strokes_for ["match", "wished"] (defScope s_strokes_for) := ⟨rfl, rfl, rfl, by decide +kernel, rfl, by decide +kernel, by decide +kernel⟩
theorem ok_strokes_for (M : Md K mg) : FnOk P w K mg base (L2.CX P w) 5 M.f_strokes_for M.d_strokes_for ["match", "wished"] (spD K T 2 φ_strokes_for) := by
  have sc := sc_strokes_for
  exact fn_ok (k := 4) (Pr := [0, 1]) 2 0 M.F_strokes_for sc rfl rfl fun cdv A outer s H E hr =>
  (dss_cons (ds_expr (de_call [false] (ok_need_match M) (hr.mono (by decide)) (by rfl) M.g_need_match M.F_need_match.kp M.b_need_match (takes_of rfl rfl rfl rfl) (da_cons (de_var 0 (pv 0)) da_nil) (len_cons len_nil)))
  (dss_cons (ds_if (dt_not (dt_tru (de_call [false, false, false] (ok_is_from M) (hr.mono (by decide)) (by rfl) M.g_is_from M.F_is_from.kp M.b_is_from (takes_of rfl rfl rfl rfl) (da_cons (de_var 1 (pv 1)) (da_cons (de_neg (de_len (by rfl) M.n_len (da_cons (de_ix (de_var 0 (pv 0)) de_int) da_nil))) (da_cons (de_len (by rfl) M.n_len (da_cons (de_ix (de_var 0 (pv 0)) de_int) da_nil)) da_nil))) (len_cons (len_cons (len_cons len_nil)))))) (dss_one ds_bad) dss_nil)
  (dss_one (ds_ret (de_call [false, false] (ok_range_for M) (hr.mono (by decide)) (by rfl) M.g_range_for M.F_range_for.kp M.b_range_for (takes_of rfl rfl rfl rfl) (da_cons (de_call [false] (ok_stairs_of M) (hr.mono (by decide)) (by rfl) M.g_stairs_of M.F_stairs_of.kp M.b_stairs_of (takes_of rfl rfl rfl rfl) (da_cons (de_var 0 (pv 0)) da_nil) (len_cons len_nil)) (da_cons (de_var 1 (pv 1)) da_nil)) (len_cons (len_cons len_nil)))))))
def φ_differences : En → O R := fnD [0] 1 ((dSeq (dSet 1 (dCall φ_differences_of [false] (dCons (dVar 0) dNil)))
  (dSeq (dIf (dTst (dIsN false (dVar 1))) (fun _ => .bad) dSkip)
  (dRet (dVar 1)))))
theorem sc_differences : FnScope N_differences ["value"] (defScope s_differences) := ⟨rfl, rfl, rfl, by decide +kernel, rfl, by decide +kernel, by decide +kernel⟩
theorem ok_differences (M : Md K mg) : FnOk P w K mg base (L2.CX P w) 3 M.f_differences M.d_differences ["value"] (spD K T 1 φ_differences) := by
  have sc := sc_differences
  exact fn_ok (k := 2) (Pr := [0]) 1 1 M.F_differences sc rfl rfl fun cdv A outer s H E hr =>
  (dss_cons (ds_set (i := 1) sc.nd (de_call [false] (ok_differences_of M) (hr.mono (by decide)) (by rfl) M.g_differences_of M.F_differences_of.kp M.b_differences_of (takes_of rfl rfl rfl rfl) (da_cons (de_var 0 (pv 0)) da_nil) (len_cons len_nil)))
  (dss_cons (ds_if (dt_isN (de_var 1 (pv 1))) (dss_one ds_bad) dss_nil)
  (dss_one (ds_ret (de_var 1 (pv 1))))))
def φ_result : En → O R := fnD [0, 1] 0 ((dSeq (dDrop (dCall φ_need_match [false] (dCons (dVar 0) dNil)))
  (dSeq (dDrop (dCall φ_need_strokes [false] (dCons (dVar 1) dNil)))
  (dRet (dFn gSum (dCons (dCall φ_holes_of [false, false] (dCons (dVar 0) (dCons (dVar 1) dNil))) dNil))))))
theorem sc_result : FnScope N_result ["match", "strokes"] (defScope s_result) := ⟨rfl, rfl, rfl, by decide +kernel, rfl, by decide +kernel, by decide +kernel⟩
theorem ok_result (M : Md K mg) : FnOk P w K mg base (L2.CX P w) 5 M.f_result M.d_result ["match", "strokes"] (spD K T 2 φ_result) := by
  have sc := sc_result
  exact fn_ok (k := 4) (Pr := [0, 1]) 2 0 M.F_result sc rfl rfl fun cdv A outer s H E hr =>
  (dss_cons (ds_expr (de_call [false] (ok_need_match M) (hr.mono (by decide)) (by rfl) M.g_need_match M.F_need_match.kp M.b_need_match (takes_of rfl rfl rfl rfl) (da_cons (de_var 0 (pv 0)) da_nil) (len_cons len_nil)))
  (dss_cons (ds_expr (de_call [false] (ok_need_strokes M) (hr.mono (by decide)) (by rfl) M.g_need_strokes M.F_need_strokes.kp M.b_need_strokes (takes_of rfl rfl rfl rfl) (da_cons (de_var 1 (pv 1)) da_nil) (len_cons len_nil)))
  (dss_one (ds_ret (de_sum rfl (by rfl) M.n_sum (da_cons (de_call [false, false] (ok_holes_of M) (hr.mono (by decide)) (by rfl) M.g_holes_of M.F_holes_of.kp M.b_holes_of (takes_of rfl rfl rfl rfl) (da_cons (de_var 0 (pv 0)) (da_cons (de_var 1 (pv 1)) da_nil)) (len_cons (len_cons len_nil))) da_nil))))))
def φ_hole_results : En → O R := fnD [0, 1] 0 ((dSeq (dDrop (dCall φ_need_match [false] (dCons (dVar 0) dNil)))
  (dSeq (dDrop (dCall φ_need_strokes [false] (dCons (dVar 1) dNil)))
  (dRet (dCall φ_holes_of [false, false] (dCons (dVar 0) (dCons (dVar 1) dNil)))))))
theorem sc_hole_results : FnScope N_hole_results ["match", "strokes"] (defScope s_hole_results) := ⟨rfl, rfl, rfl, by decide +kernel, rfl, by decide +kernel, by decide +kernel⟩
theorem ok_hole_results (M : Md K mg) : FnOk P w K mg base (L2.CX P w) 5 M.f_hole_results M.d_hole_results ["match", "strokes"] (spD K T 2 φ_hole_results) := by
  have sc := sc_hole_results
  exact fn_ok (k := 4) (Pr := [0, 1]) 2 0 M.F_hole_results sc rfl rfl fun cdv A outer s H E hr =>
  (dss_cons (ds_expr (de_call [false] (ok_need_match M) (hr.mono (by decide)) (by rfl) M.g_need_match M.F_need_match.kp M.b_need_match (takes_of rfl rfl rfl rfl) (da_cons (de_var 0 (pv 0)) da_nil) (len_cons len_nil)))
  (dss_cons (ds_expr (de_call [false] (ok_need_strokes M) (hr.mono (by decide)) (by rfl) M.g_need_strokes M.F_need_strokes.kp M.b_need_strokes (takes_of rfl rfl rfl rfl) (da_cons (de_var 1 (pv 1)) da_nil) (len_cons len_nil)))
  (dss_one (ds_ret (de_call [false, false] (ok_holes_of M) (hr.mono (by decide)) (by rfl) M.g_holes_of M.F_holes_of.kp M.b_holes_of (takes_of rfl rfl rfl rfl) (da_cons (de_var 0 (pv 0)) (da_cons (de_var 1 (pv 1)) da_nil)) (len_cons (len_cons len_nil)))))))
def φ_holes_played : En → O R := fnD [0, 1] 0 ((dSeq (dDrop (dCall φ_need_match [false] (dCons (dVar 0) dNil)))
  (dSeq (dDrop (dCall φ_need_strokes [false] (dCons (dVar 1) dNil)))
  (dRet (dOpA gIx (dCall φ_end_of [false] (dCons (dCall φ_leads_of [false, false] (dCons (dVar 0) (dCons (dVar 1) dNil))) dNil)) (dC (.int 0)))))))
theorem sc_holes_played : FnScope N_holes_played ["match", "strokes"] (defScope s_holes_played) := ⟨rfl, rfl, rfl, by decide +kernel, rfl, by decide +kernel, by decide +kernel⟩
theorem ok_holes_played (M : Md K mg) : FnOk P w K mg base (L2.CX P w) 5 M.f_holes_played M.d_holes_played ["match", "strokes"] (spD K T 2 φ_holes_played) := by
  have sc := sc_holes_played
  exact fn_ok (k := 4) (Pr := [0, 1]) 2 0 M.F_holes_played sc rfl rfl fun cdv A outer s H E hr =>
  (dss_cons (ds_expr (de_call [false] (ok_need_match M) (hr.mono (by decide)) (by rfl) M.g_need_match M.F_need_match.kp M.b_need_match (takes_of rfl rfl rfl rfl) (da_cons (de_var 0 (pv 0)) da_nil) (len_cons len_nil)))
  (dss_cons (ds_expr (de_call [false] (ok_need_strokes M) (hr.mono (by decide)) (by rfl) M.g_need_strokes M.F_need_strokes.kp M.b_need_strokes (takes_of rfl rfl rfl rfl) (da_cons (de_var 1 (pv 1)) da_nil) (len_cons len_nil)))
  (dss_one (ds_ret (de_ix (de_call [false] (ok_end_of M) (hr.mono (by decide)) (by rfl) M.g_end_of M.F_end_of.kp M.b_end_of (takes_of rfl rfl rfl rfl) (da_cons (de_call [false, false] (ok_leads_of M) (hr.mono (by decide)) (by rfl) M.g_leads_of M.F_leads_of.kp M.b_leads_of (takes_of rfl rfl rfl rfl) (da_cons (de_var 0 (pv 0)) (da_cons (de_var 1 (pv 1)) da_nil)) (len_cons (len_cons len_nil))) da_nil) (len_cons len_nil)) de_int)))))
def φ_need_scores : En → O R := fnD [0, 1] 0 ((dIf (dOr (dNot (dTru (dCall φ_good_scores [false] (dCons (dVar 0) dNil)))) (dOr (dNot (dTru (dCall φ_good_scores [false] (dCons (dVar 1) dNil)))) (dTst (dOp2 gNe (dFn gLen (dCons (dVar 0) dNil)) (dFn gLen (dCons (dVar 1) dNil)))))) (fun _ => .bad) dSkip))
theorem sc_need_scores : FnScope N_need_scores ["first", "second"] (defScope s_need_scores) := ⟨rfl, rfl, rfl, by decide +kernel, rfl, by decide +kernel, by decide +kernel⟩
theorem ok_need_scores (M : Md K mg) : FnOk P w K mg base (L2.CX P w) 3 M.f_need_scores M.d_need_scores ["first", "second"] (spD K T 2 φ_need_scores) := by
  have sc := sc_need_scores
  exact fn_ok (k := 2) (Pr := [0, 1]) 2 0 M.F_need_scores sc rfl rfl fun cdv A outer s H E hr =>
  (dss_one (ds_if (dt_bool (dw_or (dt_not (dt_tru (de_call [false] (ok_good_scores M) (hr.mono (by decide)) (by rfl) M.g_good_scores M.F_good_scores.kp M.b_good_scores (takes_of rfl rfl rfl rfl) (da_cons (de_var 0 (pv 0)) da_nil) (len_cons len_nil)))) (dw_or (dt_not (dt_tru (de_call [false] (ok_good_scores M) (hr.mono (by decide)) (by rfl) M.g_good_scores M.F_good_scores.kp M.b_good_scores (takes_of rfl rfl rfl rfl) (da_cons (de_var 1 (pv 1)) da_nil) (len_cons len_nil)))) (dw_or1 (dt_ne hr.units (de_len (by rfl) M.n_len (da_cons (de_var 0 (pv 0)) da_nil)) (de_len (by rfl) M.n_len (da_cons (de_var 1 (pv 1)) da_nil))))))) (dss_one ds_bad) dss_nil))
def φ_need_few : En → O R := fnD [0, 1] 0 ((dIf (dNot (dTru (dCall φ_is_from [false, false, false] (dCons (dVar 1) (dCons (dC (.int 0)) (dCons (dVar 0) dNil)))))) (fun _ => .bad) dSkip))
theorem sc_need_few : FnScope N_need_few ["count", "strokes"] (defScope s_need_few) := ⟨rfl, rfl, rfl, by decide +kernel, rfl, by decide +kernel, by decide +kernel⟩
theorem ok_need_few (M : Md K mg) : FnOk P w K mg base (L2.CX P w) 2 M.f_need_few M.d_need_few ["count", "strokes"] (spD K T 2 φ_need_few) := by
  have sc := sc_need_few
  exact fn_ok (k := 1) (Pr := [0, 1]) 2 0 M.F_need_few sc rfl rfl fun cdv A outer s H E hr =>
  (dss_one (ds_if (dt_not (dt_tru (de_call [false, false, false] (ok_is_from M) (hr.mono (by decide)) (by rfl) M.g_is_from M.F_is_from.kp M.b_is_from (takes_of rfl rfl rfl rfl) (da_cons (de_var 1 (pv 1)) (da_cons de_int (da_cons (de_var 0 (pv 0)) da_nil))) (len_cons (len_cons (len_cons len_nil)))))) (dss_one ds_bad) dss_nil))
def φ_ground : En → O R := fnD [0, 1] 3 ((dSeq (dSet 2 (dFn gSum (dCons (dLC (dZip2 (dCons (dVar 0) (dCons (dVar 1) dNil))) (gTupD 2 (gCons (gN 3) (gCons (gN 4) gNil))) dYes (dCall φ_sign [false] (dCons (dOp2 gSub (dVar 4) (dVar 3)) dNil)) [3, 4]) dNil)))
  (dRet (dTup (dCons (dVar 2) (dCons (dFn gLen (dCons (dLC (dZip2 (dCons (dVar 0) (dCons (dVar 1) dNil))) (gTupD 2 (gCons (gN 3) (gCons (gN 4) gNil))) (dTst (dOp2 (gIn false) (dOp2 gSub (dVar 3) (dVar 4)) (dTup (dCons (dC (.int 0)) (dCons (dC (.int 1)) dNil))))) (dVar 3) [3, 4]) dNil)) dNil))))))
theorem sc_ground : FnScope N_ground ["first", "second"] (defScope s_ground) := ⟨rfl, rfl, rfl, by decide +kernel, rfl, by decide +kernel, by decide +kernel⟩
theorem ok_ground (M : Md K mg) : FnOk P w K mg base (L2.CX P w) 2 M.f_ground M.d_ground ["first", "second"] (spD K T 2 φ_ground) := by
  have sc := sc_ground
  exact fn_ok (k := 1) (Pr := [0, 1]) 2 3 M.F_ground sc rfl rfl fun cdv A outer s H E hr =>
  (dss_cons (ds_set (i := 2) sc.nd (de_sum rfl (by rfl) M.n_sum (da_cons (de_lc (own := [("one", 3), ("two", 4)]) rfl sc.nd (di_zip2 (by rfl) M.n_zip (da_cons (de_var 0 (pv 0)) (da_cons (de_var 1 (pv 1)) da_nil))) (blkOk_by (N := N_ground) (sc := defScope s_ground) (by decide +kernel)) (fun _ _ _ _ _ => (dg_tup (n := 2) rfl (dgs_cons (dg_name (i := 3) sc.nd) (dgs_cons (dg_name (i := 4) sc.nd) dgs_nil)))) (fun _ _ _ _ _ => dts_nil) (fun _ _ _ _ _ => (de_call [false] (ok_sign M) (hr.mono (by decide)) (by rfl) M.g_sign M.F_sign.kp M.b_sign takes0 (da_cons (de_sub (de_var 4 (pv 4)) (de_var 3 (pv 3))) da_nil) (len_cons len_nil)))) da_nil)))
  (dss_one (ds_ret (de_tup (da_cons (de_var 2 (pv 2)) (da_cons (de_len (by rfl) M.n_len (da_cons (de_lc (own := [("one", 3), ("two", 4)]) rfl sc.nd (di_zip2 (by rfl) M.n_zip (da_cons (de_var 0 (pv 0)) (da_cons (de_var 1 (pv 1)) da_nil))) (blkOk_by (N := N_ground) (sc := defScope s_ground) (by decide +kernel)) (fun _ _ _ _ _ => (dg_tup (n := 2) rfl (dgs_cons (dg_name (i := 3) sc.nd) (dgs_cons (dg_name (i := 4) sc.nd) dgs_nil)))) (fun _ _ _ _ _ => (dts_one (dt_in (de_sub (de_var 3 (pv 3)) (de_var 4 (pv 4))) (de_tup (da_cons de_int (da_cons de_int da_nil)))))) (fun _ _ _ _ _ => (de_var 3 (pv 3)))) da_nil)) da_nil))))))
def g_factorial_1 : D → En → Option En := (gN 2)
def b_factorial_1 : En → O Fl := (dAug 1 gMulI (dVar 2))
def φ_factorial : En → O R := fnD [0] 2 ((dSeq (dSet 1 (dC (.int 1)))
  (dSeq (dFor (dRng2 (dCons (dC (.int 2)) (dCons (dOpA gAdd (dVar 0) (dC (.int 1))) dNil))) g_factorial_1 b_factorial_1)
  (dRet (dVar 1)))))
theorem sc_factorial : FnScope N_factorial ["many"] (defScope s_factorial) := ⟨rfl, rfl, rfl, by decide +kernel, rfl, by decide +kernel, by decide +kernel⟩
theorem ok_factorial (M : Md K mg) : FnOk P w K mg base (L2.CX P w) 1 M.f_factorial M.d_factorial ["many"] (spD K T 1 φ_factorial) := by
  have sc := sc_factorial
  exact fn_ok (k := 0) (Pr := [0]) 1 2 M.F_factorial sc rfl rfl fun cdv A outer s H E hr =>
  (dss_cons (ds_set (i := 1) sc.nd de_int)
  (dss_cons (ds_for (passes_of rfl) rfl (di_range2 (by rfl) M.n_range (da_cons de_int (da_cons (de_add (de_var 0 (pv 0)) de_int) da_nil))) (dg_name (i := 2) sc.nd) (dss_one (ds_augMult (i := 1) sc.nd (de_var 2 (pv 2)))))
  (dss_one (ds_ret (de_var 1 (pv 1))))))
def g_choose_1 : D → En → Option En := (gN 3)
def b_choose_1 : En → O Fl := (dSet 2 (dOp2 gFdiv (dMul (dVar 2) (dOp2 gSub (dVar 0) (dVar 3))) (dOpA gAdd (dVar 3) (dC (.int 1)))))
def φ_choose : En → O R := fnD [0, 1] 2 ((dSeq (dIf (dNot (dTst (dCh gLe gLe (dC (.int 0)) (dVar 1) (dVar 0)))) (dRet (dC (.int 0))) dSkip)
  (dSeq (dSet 2 (dC (.int 1)))
  (dSeq (dFor (dRng1 (dCons (dVar 1) dNil)) g_choose_1 b_choose_1)
  (dRet (dVar 2))))))
theorem sc_choose : FnScope N_choose ["many", "few"] (defScope s_choose) := ⟨rfl, rfl, rfl, by decide +kernel, rfl, by decide +kernel, by decide +kernel⟩
theorem ok_choose (M : Md K mg) : FnOk P w K mg base (L2.CX P w) 1 M.f_choose M.d_choose ["many", "few"] (spD K T 2 φ_choose) := by
  have sc := sc_choose
  exact fn_ok (k := 0) (Pr := [0, 1]) 2 2 M.F_choose sc rfl rfl fun cdv A outer s H E hr =>
  (dss_cons (ds_if (dt_not (dt_lele de_int (de_var 1 (pv 1)) (de_var 0 (pv 0)))) (dss_one (ds_ret de_int)) dss_nil)
  (dss_cons (ds_set (i := 2) sc.nd de_int)
  (dss_cons (ds_for (passes_of rfl) rfl (di_range1 (by rfl) M.n_range (da_cons (de_var 1 (pv 1)) da_nil)) (dg_name (i := 3) sc.nd) (dss_one (ds_set (i := 2) sc.nd (de_fdiv (de_mul (de_var 2 (pv 2)) (de_sub (de_var 0 (pv 0)) (de_var 3 (pv 3)))) (de_add (de_var 3 (pv 3)) de_int)))))
  (dss_one (ds_ret (de_var 2 (pv 2)))))))
def g_ways_1 : D → En → Option En := (gTupD 2 (gCons (gN 8) (gCons (gN 9) gNil)))
def b_ways_1 : En → O Fl := (dAug 7 gMulI (dCall φ_choose [false, false] (dCons (dOp2 gSub (dOpA gIx (dVar 9) (dC (.int 0))) (dOpA gIx (dVar 8) (dC (.int 0)))) (dCons (dOp2 gSub (dOpA gIx (dVar 9) (dC (.int 1))) (dOpA gIx (dVar 8) (dC (.int 1)))) dNil))))
def φ_ways : En → O R := fnD [0, 1, 2] 9 ((dSeq (dAsg (gTupD 2 (gCons (gN 3) (gCons (gTupD 2 (gCons (gN 4) (gCons (gN 5) gNil))) gNil))) (dTup (dCons (dFn gLen (dCons (dVar 0) dNil)) (dCons (dCall φ_ground [false, false] (dCons (dVar 0) (dCons (dVar 1) dNil))) dNil))))
  (dSeq (dSet 6 (dOpA gAdd (dOpA gAdd (dLst (dCons (dTup (dCons (dC (.int 0)) (dCons (dC (.int 0)) dNil))) dNil)) (dLC (dSeqI (dVar 2)) (gTupD 2 (gCons (gN 10) (gCons (gN 11) gNil))) dYes (dTup (dCons (dVar 10) (dCons (dOp2 gSub (dVar 11) (dVar 4)) dNil))) [10, 11])) (dLst (dCons (dTup (dCons (dVar 3) (dCons (dVar 5) dNil))) dNil))))
  (dSeq (dSet 7 (dMul (dCall φ_factorial [false] (dCons (dVar 5) dNil)) (dCall φ_factorial [false] (dCons (dOp2 gSub (dVar 3) (dVar 5)) dNil))))
  (dSeq (dFor (dZip2 (dCons (dVar 6) (dCons (dSl (dVar 6) (dOS (dC (.int 1))) dON) dNil))) g_ways_1 b_ways_1)
  (dRet (dVar 7)))))))
theorem sc_ways : FnScope N_ways ["first", "second", "seen"] (defScope s_ways) := ⟨rfl, rfl, rfl, by decide +kernel, rfl, by decide +kernel, by decide +kernel⟩
theorem ok_ways (M : Md K mg) : FnOk P w K mg base (L2.CX P w) 3 M.f_ways M.d_ways ["first", "second", "seen"] (spD K T 3 φ_ways) := by
  have sc := sc_ways
  exact fn_ok (k := 2) (Pr := [0, 1, 2]) 3 9 M.F_ways sc rfl rfl fun cdv A outer s H E hr =>
  (dss_cons (ds_asg (de_tup (da_cons (de_len (by rfl) M.n_len (da_cons (de_var 0 (pv 0)) da_nil)) (da_cons (de_call [false, false] (ok_ground M) (hr.mono (by decide)) (by rfl) M.g_ground M.F_ground.kp M.b_ground (takes_of rfl rfl rfl rfl) (da_cons (de_var 0 (pv 0)) (da_cons (de_var 1 (pv 1)) da_nil)) (len_cons (len_cons len_nil))) da_nil))) (dg_tup (n := 2) rfl (dgs_cons (dg_name (i := 3) sc.nd) (dgs_cons (dg_tup (n := 2) rfl (dgs_cons (dg_name (i := 4) sc.nd) (dgs_cons (dg_name (i := 5) sc.nd) dgs_nil))) dgs_nil))))
  (dss_cons (ds_set (i := 6) sc.nd (de_add (de_add (de_lst (da_cons (de_tup (da_cons de_int (da_cons de_int da_nil))) da_nil)) (de_lc (own := [("strokes", 10), ("told", 11)]) rfl sc.nd (di_seq (de_var 2 (pv 2))) (blkOk_by (N := N_ways) (sc := defScope s_ways) (by decide +kernel)) (fun _ _ _ _ _ => (dg_tup (n := 2) rfl (dgs_cons (dg_name (i := 10) sc.nd) (dgs_cons (dg_name (i := 11) sc.nd) dgs_nil)))) (fun _ _ _ _ _ => dts_nil) (fun _ _ _ _ _ => (de_tup (da_cons (de_var 10 (pv 10)) (da_cons (de_sub (de_var 11 (pv 11)) (de_var 4 (pv 4))) da_nil)))))) (de_lst (da_cons (de_tup (da_cons (de_var 3 (pv 3)) (da_cons (de_var 5 (pv 5)) da_nil))) da_nil))))
  (dss_cons (ds_set (i := 7) sc.nd (de_mul (de_call [false] (ok_factorial M) (hr.mono (by decide)) (by rfl) M.g_factorial M.F_factorial.kp M.b_factorial (takes_of rfl rfl rfl rfl) (da_cons (de_var 5 (pv 5)) da_nil) (len_cons len_nil)) (de_call [false] (ok_factorial M) (hr.mono (by decide)) (by rfl) M.g_factorial M.F_factorial.kp M.b_factorial (takes_of rfl rfl rfl rfl) (da_cons (de_sub (de_var 3 (pv 3)) (de_var 5 (pv 5))) da_nil) (len_cons len_nil))))
  (dss_cons (ds_for (passes_of rfl) rfl (di_zip2 (by rfl) M.n_zip (da_cons (de_var 6 (pv 6)) (da_cons (de_slice (de_var 6 (pv 6)) (do_some de_int) do_none) da_nil))) (dg_tup (n := 2) rfl (dgs_cons (dg_name (i := 8) sc.nd) (dgs_cons (dg_name (i := 9) sc.nd) dgs_nil))) (dss_one (ds_augMult (i := 7) sc.nd (de_call [false, false] (ok_choose M) (hr.mono (by decide)) (by rfl) M.g_choose M.F_choose.kp M.b_choose (takes_of rfl rfl rfl rfl) (da_cons (de_sub (de_ix (de_var 9 (pv 9)) de_int) (de_ix (de_var 8 (pv 8)) de_int)) (da_cons (de_sub (de_ix (de_var 9 (pv 9)) de_int) (de_ix (de_var 8 (pv 8)) de_int)) da_nil)) (len_cons (len_cons len_nil))))))
  (dss_one (ds_ret (de_var 7 (pv 7))))))))
def φ_count_orders : En → O R := fnD [0, 1, 2, 3] 0 ((dSeq (dDrop (dCall φ_need_scores [false, false] (dCons (dVar 0) (dCons (dVar 1) dNil))))
  (dSeq (dDrop (dCall φ_need_few [false, false] (dCons (dFn gLen (dCons (dVar 0) dNil)) (dCons (dVar 2) dNil))))
  (dSeq (dIf (dNot (dTru (dCall φ_is_from [false, false, false] (dCons (dVar 3) (dCons (dUn gNeg (dFn gLen (dCons (dVar 0) dNil))) (dCons (dFn gLen (dCons (dVar 0) dNil)) dNil)))))) (fun _ => .bad) dSkip)
  (dRet (dCall φ_ways [false, false, false] (dCons (dVar 0) (dCons (dVar 1) (dCons (dTup (dCons (dTup (dCons (dVar 2) (dCons (dVar 3) dNil))) dNil)) dNil)))))))))
theorem sc_count_orders : FnScope N_count_orders ["first", "second", "strokes", "wished"] (defScope s_count_orders) := ⟨rfl, rfl, rfl, by decide +kernel, rfl, by decide +kernel, by decide +kernel⟩
theorem ok_count_orders (M : Md K mg) : FnOk P w K mg base (L2.CX P w) 4 M.f_count_orders M.d_count_orders ["first", "second", "strokes", "wished"] (spD K T 4 φ_count_orders) := by
  have sc := sc_count_orders
  exact fn_ok (k := 3) (Pr := [0, 1, 2, 3]) 4 0 M.F_count_orders sc rfl rfl fun cdv A outer s H E hr =>
  (dss_cons (ds_expr (de_call [false, false] (ok_need_scores M) (hr.mono (by decide)) (by rfl) M.g_need_scores M.F_need_scores.kp M.b_need_scores (takes_of rfl rfl rfl rfl) (da_cons (de_var 0 (pv 0)) (da_cons (de_var 1 (pv 1)) da_nil)) (len_cons (len_cons len_nil))))
  (dss_cons (ds_expr (de_call [false, false] (ok_need_few M) (hr.mono (by decide)) (by rfl) M.g_need_few M.F_need_few.kp M.b_need_few (takes_of rfl rfl rfl rfl) (da_cons (de_len (by rfl) M.n_len (da_cons (de_var 0 (pv 0)) da_nil)) (da_cons (de_var 2 (pv 2)) da_nil)) (len_cons (len_cons len_nil))))
  (dss_cons (ds_if (dt_not (dt_tru (de_call [false, false, false] (ok_is_from M) (hr.mono (by decide)) (by rfl) M.g_is_from M.F_is_from.kp M.b_is_from (takes_of rfl rfl rfl rfl) (da_cons (de_var 3 (pv 3)) (da_cons (de_neg (de_len (by rfl) M.n_len (da_cons (de_var 0 (pv 0)) da_nil))) (da_cons (de_len (by rfl) M.n_len (da_cons (de_var 0 (pv 0)) da_nil)) da_nil))) (len_cons (len_cons (len_cons len_nil)))))) (dss_one ds_bad) dss_nil)
  (dss_one (ds_ret (de_call [false, false, false] (ok_ways M) (hr.mono (by decide)) (by rfl) M.g_ways M.F_ways.kp M.b_ways (takes_of rfl rfl rfl rfl) (da_cons (de_var 0 (pv 0)) (da_cons (de_var 1 (pv 1)) (da_cons (de_tup (da_cons (de_tup (da_cons (de_var 2 (pv 2)) (da_cons (de_var 3 (pv 3)) da_nil))) da_nil)) da_nil))) (len_cons (len_cons (len_cons len_nil)))))))))
def g_need_seen_1 : D → En → Option En := (gN 2)
def b_need_seen_1 : En → O Fl := (dSeq (dIf (dOr (dNot (dTru (dFn gIsi5 (dCons (dVar 2) (dCons (dC (.ty "tuple")) dNil))))) (dTst (dOp2 gNe (dFn gLen (dCons (dVar 2) dNil)) (dC (.int 2))))) (fun _ => .bad) dSkip)
  (dIf (dOr (dNot (dTru (dCall φ_is_from [false, false, false] (dCons (dOpA gIx (dVar 2) (dC (.int 0))) (dCons (dC (.int 0)) (dCons (dVar 0) dNil)))))) (dNot (dTru (dCall φ_is_from [false, false, false] (dCons (dOpA gIx (dVar 2) (dC (.int 1))) (dCons (dUn gNeg (dVar 0)) (dCons (dVar 0) dNil))))))) (fun _ => .bad) dSkip))
def φ_need_seen : En → O R := fnD [0, 1] 3 ((dSeq (dIf (dNot (dTru (dFn gIsi5 (dCons (dVar 1) (dCons (dC (.ty "tuple")) dNil))))) (fun _ => .bad) dSkip)
  (dSeq (dFor (dSeqI (dVar 1)) g_need_seen_1 b_need_seen_1)
  (dIf (dNot (dTru (dFn gAll (dCons (dLC (dZip2 (dCons (dVar 1) (dCons (dSl (dVar 1) (dOS (dC (.int 1))) dON) dNil))) (gTupD 2 (gCons (gN 3) (gCons (gN 4) gNil))) dYes (dOp2 gLt (dOpA gIx (dVar 3) (dC (.int 0))) (dOpA gIx (dVar 4) (dC (.int 0)))) [3, 4]) dNil)))) (fun _ => .bad) dSkip))))
theorem sc_need_seen : FnScope N_need_seen ["count", "seen"] (defScope s_need_seen) := ⟨rfl, rfl, rfl, by decide +kernel, rfl, by decide +kernel, by decide +kernel⟩
theorem ok_need_seen (M : Md K mg) : FnOk P w K mg base (L2.CX P w) 2 M.f_need_seen M.d_need_seen ["count", "seen"] (spD K T 2 φ_need_seen) := by
  have sc := sc_need_seen
  exact fn_ok (k := 1) (Pr := [0, 1]) 2 3 M.F_need_seen sc rfl rfl fun cdv A outer s H E hr =>
  (dss_cons (ds_if (dt_not (dt_tru (de_isi (by rfl) M.n_isinstance (da_cons (de_var 1 (pv 1)) (da_cons (de_ty (by rfl) M.n_tuple) da_nil))))) (dss_one ds_bad) dss_nil)
  (dss_cons (ds_for (passes_of rfl) rfl (di_seq (de_var 1 (pv 1))) (dg_name (i := 2) sc.nd) (dss_cons (ds_if (dt_bool (dw_or (dt_not (dt_tru (de_isi (by rfl) M.n_isinstance (da_cons (de_var 2 (pv 2)) (da_cons (de_ty (by rfl) M.n_tuple) da_nil))))) (dw_or1 (dt_ne hr.units (de_len (by rfl) M.n_len (da_cons (de_var 2 (pv 2)) da_nil)) de_int)))) (dss_one ds_bad) dss_nil)
  (dss_one (ds_if (dt_bool (dw_or (dt_not (dt_tru (de_call [false, false, false] (ok_is_from M) (hr.mono (by decide)) (by rfl) M.g_is_from M.F_is_from.kp M.b_is_from (takes_of rfl rfl rfl rfl) (da_cons (de_ix (de_var 2 (pv 2)) de_int) (da_cons de_int (da_cons (de_var 0 (pv 0)) da_nil))) (len_cons (len_cons (len_cons len_nil)))))) (dw_or1 (dt_not (dt_tru (de_call [false, false, false] (ok_is_from M) (hr.mono (by decide)) (by rfl) M.g_is_from M.F_is_from.kp M.b_is_from (takes_of rfl rfl rfl rfl) (da_cons (de_ix (de_var 2 (pv 2)) de_int) (da_cons (de_neg (de_var 0 (pv 0))) (da_cons (de_var 0 (pv 0)) da_nil))) (len_cons (len_cons (len_cons len_nil))))))))) (dss_one ds_bad) dss_nil))))
  (dss_one (ds_if (dt_not (dt_tru (de_all rfl (by rfl) M.n_all (da_cons (de_lc (own := [("one", 3), ("other", 4)]) rfl sc.nd (di_zip2 (by rfl) M.n_zip (da_cons (de_var 1 (pv 1)) (da_cons (de_slice (de_var 1 (pv 1)) (do_some de_int) do_none) da_nil))) (blkOk_by (N := N_need_seen) (sc := defScope s_need_seen) (by decide +kernel)) (fun _ _ _ _ _ => (dg_tup (n := 2) rfl (dgs_cons (dg_name (i := 3) sc.nd) (dgs_cons (dg_name (i := 4) sc.nd) dgs_nil)))) (fun _ _ _ _ _ => dts_nil) (fun _ _ _ _ _ => (de_lt (de_ix (de_var 3 (pv 3)) de_int) (de_ix (de_var 4 (pv 4)) de_int)))) da_nil)))) (dss_one ds_bad) dss_nil))))
def φ_with_more : En → O R := fnD [0, 1, 2] 2 ((dSeq (dSet 3 (dFn gDictP (dCons (dVar 0) dNil)))
  (dSeq (dIf (dTst (dOp2 gNe (dGetD (dVar 3) (dVar 1) (dVar 2)) (dVar 2))) (dRet (dC .non)) dSkip)
  (dSeq (dPutK 3 (dVar 1) (dVar 2))
  (dRet (dFn gTuple (dCons (dLC (dSeqI (dFn gSortedD (dCons (dVar 3) dNil))) (gN 4) dYes (dTup (dCons (dVar 4) (dCons (dGetK (dVar 3) (dVar 4)) dNil))) [4]) dNil)))))))
theorem sc_with_more : FnScope N_with_more ["seen", "strokes", "wished"] (defScope s_with_more) := ⟨rfl, rfl, rfl, by decide +kernel, rfl, by decide +kernel, by decide +kernel⟩
theorem ok_with_more (M : Md K mg) : FnOk P w K mg base (L2.CX P w) 1 M.f_with_more M.d_with_more ["seen", "strokes", "wished"] (spD K T 3 φ_with_more) := by
  have sc := sc_with_more
  exact fn_ok (k := 0) (Pr := [0, 1, 2]) 3 2 M.F_with_more sc rfl rfl fun cdv A outer s H E hr =>
  (dss_cons (ds_set (i := 3) sc.nd (de_dictP rfl (by rfl) M.n_dict (da_cons (de_var 0 (pv 0)) da_nil)))
  (dss_cons (ds_if (dt_ne hr.units (de_getD hr.units (de_var 3 (pv 3)) (de_var 1 (pv 1)) (de_var 2 (pv 2)) ⟨by rfl, by rfl, by rfl, by rfl⟩) (de_var 2 (pv 2))) (dss_one (ds_ret de_non)) dss_nil)
  (dss_cons (ds_putK 3 hr.units (pv 3) (de_var 1 (pv 1)) (de_var 2 (pv 2)))
  (dss_one (ds_ret (de_tuple (by rfl) M.n_tuple (da_cons (de_lc (own := [("one", 4)]) rfl sc.nd (di_seq (de_sortedD rfl (by rfl) M.n_sorted (da_cons (de_var 3 (pv 3)) da_nil))) (blkOk_by (N := N_with_more) (sc := defScope s_with_more) (by decide +kernel)) (fun _ _ _ _ _ => (dg_name (i := 4) sc.nd)) (fun _ _ _ _ _ => dts_nil) (fun _ _ _ _ _ => (de_tup (da_cons (de_var 4 (pv 4)) (da_cons (de_getK hr.units (de_var 3 (pv 3)) (de_var 4 (pv 4))) da_nil))))) da_nil)))))))
def g_possible_results_1 : D → En → Option En := (gN 5)
def b_possible_results_1 : En → O Fl := (dSeq (dSet 6 (dCall φ_with_more [false, false, false] (dCons (dVar 2) (dCons (dVar 3) (dCons (dVar 5) dNil)))))
  (dIf (dAnd (dTst (dIsN true (dVar 6))) (dTst (dOp2 gGt (dCall φ_ways [false, false, false] (dCons (dVar 0) (dCons (dVar 1) (dCons (dVar 6) dNil)))) (dC (.int 0))))) (dDrop (dM 4 isL mApp (dCons (dVar 5) dNil))) dSkip))
def φ_possible_results : En → O R := fnD [0, 1, 2, 3] 3 ((dSeq (dDrop (dCall φ_need_scores [false, false] (dCons (dVar 0) (dCons (dVar 1) dNil))))
  (dSeq (dDrop (dCall φ_need_seen [false, false] (dCons (dFn gLen (dCons (dVar 0) dNil)) (dCons (dVar 2) dNil))))
  (dSeq (dDrop (dCall φ_need_few [false, false] (dCons (dFn gLen (dCons (dVar 0) dNil)) (dCons (dVar 3) dNil))))
  (dSeq (dSet 4 (dLst dNil))
  (dSeq (dFor (dRng2 (dCons (dUn gNeg (dFn gLen (dCons (dVar 0) dNil))) (dCons (dOpA gAdd (dFn gLen (dCons (dVar 0) dNil)) (dC (.int 1))) dNil))) g_possible_results_1 b_possible_results_1)
  (dRet (dVar 4))))))))
theorem sc_possible_results : FnScope N_possible_results ["first", "second", "seen", "strokes"] (defScope s_possible_results) := ⟨rfl, rfl, rfl, by decide +kernel, rfl, by decide +kernel, by decide +kernel⟩
theorem ok_possible_results (M : Md K mg) : FnOk P w K mg base (L2.CX P w) 4 M.f_possible_results M.d_possible_results ["first", "second", "seen", "strokes"] (spD K T 4 φ_possible_results) := by
  have sc := sc_possible_results
  exact fn_ok (k := 3) (Pr := [0, 1, 2, 3]) 4 3 M.F_possible_results sc rfl rfl fun cdv A outer s H E hr =>
  (dss_cons (ds_expr (de_call [false, false] (ok_need_scores M) (hr.mono (by decide)) (by rfl) M.g_need_scores M.F_need_scores.kp M.b_need_scores (takes_of rfl rfl rfl rfl) (da_cons (de_var 0 (pv 0)) (da_cons (de_var 1 (pv 1)) da_nil)) (len_cons (len_cons len_nil))))
  (dss_cons (ds_expr (de_call [false, false] (ok_need_seen M) (hr.mono (by decide)) (by rfl) M.g_need_seen M.F_need_seen.kp M.b_need_seen (takes_of rfl rfl rfl rfl) (da_cons (de_len (by rfl) M.n_len (da_cons (de_var 0 (pv 0)) da_nil)) (da_cons (de_var 2 (pv 2)) da_nil)) (len_cons (len_cons len_nil))))
  (dss_cons (ds_expr (de_call [false, false] (ok_need_few M) (hr.mono (by decide)) (by rfl) M.g_need_few M.F_need_few.kp M.b_need_few (takes_of rfl rfl rfl rfl) (da_cons (de_len (by rfl) M.n_len (da_cons (de_var 0 (pv 0)) da_nil)) (da_cons (de_var 3 (pv 3)) da_nil)) (len_cons (len_cons len_nil))))
  (dss_cons (ds_set (i := 4) sc.nd (de_lst da_nil))
  (dss_cons (ds_for (passes_of rfl) rfl (di_range2 (by rfl) M.n_range (da_cons (de_neg (de_len (by rfl) M.n_len (da_cons (de_var 0 (pv 0)) da_nil))) (da_cons (de_add (de_len (by rfl) M.n_len (da_cons (de_var 0 (pv 0)) da_nil)) de_int) da_nil))) (dg_name (i := 5) sc.nd) (dss_cons (ds_set (i := 6) sc.nd (de_call [false, false, false] (ok_with_more M) (hr.mono (by decide)) (by rfl) M.g_with_more M.F_with_more.kp M.b_with_more (takes_of rfl rfl rfl rfl) (da_cons (de_var 2 (pv 2)) (da_cons (de_var 3 (pv 3)) (da_cons (de_var 5 (pv 5)) da_nil))) (len_cons (len_cons (len_cons len_nil)))))
  (dss_one (ds_if (dt_bool (dw_and (dt_notN (de_var 6 (pv 6))) (dw_and1 (dt_gt (de_call [false, false, false] (ok_ways M) (hr.mono (by decide)) (by rfl) M.g_ways M.F_ways.kp M.b_ways (takes_of rfl rfl rfl rfl) (da_cons (de_var 0 (pv 0)) (da_cons (de_var 1 (pv 1)) (da_cons (de_var 6 (pv 6)) da_nil))) (len_cons (len_cons (len_cons len_nil)))) de_int)))) (dss_one (ds_expr (de_m (i := 4) (kd := isL) PySem.F.plainAttrs_list PySem.F.slot_list_append PySem.F.type_list_append mt_append mt_app tyL (pv 4) (da_cons (de_var 5 (pv 5)) da_nil)))) dss_nil))))
  (dss_one (ds_ret (de_var 4 (pv 4)))))))))
def φ_count_indexes : En → O R := fnD [0, 1, 2] 0 ((dSeq (dDrop (dCall φ_need_scores [false, false] (dCons (dVar 0) (dCons (dVar 1) dNil))))
  (dSeq (dDrop (dCall φ_need_seen [false, false] (dCons (dFn gLen (dCons (dVar 0) dNil)) (dCons (dVar 2) dNil))))
  (dRet (dCall φ_ways [false, false, false] (dCons (dVar 0) (dCons (dVar 1) (dCons (dVar 2) dNil))))))))
theorem sc_count_indexes : FnScope N_count_indexes ["first", "second", "seen"] (defScope s_count_indexes) := ⟨rfl, rfl, rfl, by decide +kernel, rfl, by decide +kernel, by decide +kernel⟩
theorem ok_count_indexes (M : Md K mg) : FnOk P w K mg base (L2.CX P w) 4 M.f_count_indexes M.d_count_indexes ["first", "second", "seen"] (spD K T 3 φ_count_indexes) := by
  have sc := sc_count_indexes
  exact fn_ok (k := 3) (Pr := [0, 1, 2]) 3 0 M.F_count_indexes sc rfl rfl fun cdv A outer s H E hr =>
  (dss_cons (ds_expr (de_call [false, false] (ok_need_scores M) (hr.mono (by decide)) (by rfl) M.g_need_scores M.F_need_scores.kp M.b_need_scores (takes_of rfl rfl rfl rfl) (da_cons (de_var 0 (pv 0)) (da_cons (de_var 1 (pv 1)) da_nil)) (len_cons (len_cons len_nil))))
  (dss_cons (ds_expr (de_call [false, false] (ok_need_seen M) (hr.mono (by decide)) (by rfl) M.g_need_seen M.F_need_seen.kp M.b_need_seen (takes_of rfl rfl rfl rfl) (da_cons (de_len (by rfl) M.n_len (da_cons (de_var 0 (pv 0)) da_nil)) (da_cons (de_var 2 (pv 2)) da_nil)) (len_cons (len_cons len_nil))))
  (dss_one (ds_ret (de_call [false, false, false] (ok_ways M) (hr.mono (by decide)) (by rfl) M.g_ways M.F_ways.kp M.b_ways (takes_of rfl rfl rfl rfl) (da_cons (de_var 0 (pv 0)) (da_cons (de_var 1 (pv 1)) (da_cons (de_var 2 (pv 2)) da_nil))) (len_cons (len_cons (len_cons len_nil))))))))
def g_prices_1 : D → En → Option En := (gN 8)
def b_prices_1 : En → O Fl := (dIf (dTst (dCh gLt gLt (dC (.int 0)) (dVar 8) (dVar 3))) (dDrop (dM 7 isL mApp (dCons (dTup (dCons (dVar 8) (dCons (dOp2 gSub (dCall φ_sign [false] (dCons (dOp2 gSub (dVar 8) (dVar 6)) dNil)) (dCall φ_sign [false] (dCons (dUn gNeg (dVar 6)) dNil))) dNil))) dNil))) dSkip)
def g_prices_2 : D → En → Option En := (gTupD 3 (gCons (gN 3) (gCons (gN 4) (gCons (gN 5) gNil))))
def b_prices_2 : En → O Fl := (dSeq (dSet 6 (dOp2 gSub (dOp2 gSub (dVar 3) (dVar 4)) (dCall φ_at_hole [false, false, false] (dCons (dFn gLen (dCons (dOpA gIx (dVar 0) (dC (.int 2))) dNil)) (dCons (dVar 5) (dCons (dVar 1) dNil))))))
  (dSeq (dSet 7 (dLst (dCons (dTup (dCons (dC (.int 0)) (dCons (dC (.int 0)) dNil))) dNil)))
  (dSeq (dFor (dSeqI (dTup (dCons (dVar 6) (dCons (dOpA gAdd (dVar 6) (dC (.int 1))) dNil)))) g_prices_1 b_prices_1)
  (dDrop (dM 2 isL mApp (dCons (dVar 7) dNil))))))
def φ_prices : En → O R := fnD [0, 1] 7 ((dSeq (dSet 2 (dLst dNil))
  (dSeq (dFor (dZip3 (dCons (dOpA gIx (dVar 0) (dC (.int 0))) (dCons (dOpA gIx (dVar 0) (dC (.int 1))) (dCons (dOpA gIx (dVar 0) (dC (.int 2))) dNil)))) g_prices_2 b_prices_2)
  (dRet (dVar 2)))))
theorem sc_prices : FnScope N_prices ["match", "strokes"] (defScope s_prices) := ⟨rfl, rfl, rfl, by decide +kernel, rfl, by decide +kernel, by decide +kernel⟩
theorem ok_prices (M : Md K mg) : FnOk P w K mg base (L2.CX P w) 2 M.f_prices M.d_prices ["match", "strokes"] (spD K T 2 φ_prices) := by
  have sc := sc_prices
  exact fn_ok (k := 1) (Pr := [0, 1]) 2 7 M.F_prices sc rfl rfl fun cdv A outer s H E hr =>
  (dss_cons (ds_set (i := 2) sc.nd (de_lst da_nil))
  (dss_cons (ds_for (passes_of rfl) rfl (di_zip3 (by rfl) M.n_zip (da_cons (de_ix (de_var 0 (pv 0)) de_int) (da_cons (de_ix (de_var 0 (pv 0)) de_int) (da_cons (de_ix (de_var 0 (pv 0)) de_int) da_nil)))) (dg_tup (n := 3) rfl (dgs_cons (dg_name (i := 3) sc.nd) (dgs_cons (dg_name (i := 4) sc.nd) (dgs_cons (dg_name (i := 5) sc.nd) dgs_nil)))) (dss_cons (ds_set (i := 6) sc.nd (de_sub (de_sub (de_var 3 (pv 3)) (de_var 4 (pv 4))) (de_call [false, false, false] (ok_at_hole M) (hr.mono (by decide)) (by rfl) M.g_at_hole M.F_at_hole.kp M.b_at_hole (takes_of rfl rfl rfl rfl) (da_cons (de_len (by rfl) M.n_len (da_cons (de_ix (de_var 0 (pv 0)) de_int) da_nil)) (da_cons (de_var 5 (pv 5)) (da_cons (de_var 1 (pv 1)) da_nil))) (len_cons (len_cons (len_cons len_nil))))))
  (dss_cons (ds_set (i := 7) sc.nd (de_lst (da_cons (de_tup (da_cons de_int (da_cons de_int da_nil))) da_nil)))
  (dss_cons (ds_for (passes_of rfl) rfl (di_seq (de_tup (da_cons (de_var 6 (pv 6)) (da_cons (de_add (de_var 6 (pv 6)) de_int) da_nil)))) (dg_name (i := 8) sc.nd) (dss_one (ds_if (dt_ltlt de_int (de_var 8 (pv 8)) (de_var 3 (pv 3))) (dss_one (ds_expr (de_m (i := 7) (kd := isL) PySem.F.plainAttrs_list PySem.F.slot_list_append PySem.F.type_list_append mt_append mt_app tyL (pv 7) (da_cons (de_tup (da_cons (de_var 8 (pv 8)) (da_cons (de_sub (de_call [false] (ok_sign M) (hr.mono (by decide)) (by rfl) M.g_sign M.F_sign.kp M.b_sign (takes_of rfl rfl rfl rfl) (da_cons (de_sub (de_var 8 (pv 8)) (de_var 6 (pv 6))) da_nil) (len_cons len_nil)) (de_call [false] (ok_sign M) (hr.mono (by decide)) (by rfl) M.g_sign M.F_sign.kp M.b_sign (takes_of rfl rfl rfl rfl) (da_cons (de_neg (de_var 6 (pv 6))) da_nil) (len_cons len_nil))) da_nil))) da_nil)))) dss_nil)))
  (dss_one (ds_expr (de_m (i := 2) (kd := isL) PySem.F.plainAttrs_list PySem.F.slot_list_append PySem.F.type_list_append mt_append mt_app tyL (pv 2) (da_cons (de_var 7 (pv 7)) da_nil))))))))
  (dss_one (ds_ret (de_var 2 (pv 2))))))
def g_cheapest_1 : D → En → Option En := (gTupD 2 (gCons (gN 6) (gCons (gN 7) gNil)))
def b_cheapest_1 : En → O Fl := (dSeq (dSet 8 (dTup (dCons (dOpA gAdd (dOpA gIx (dGetK (dVar 2) (dVar 5)) (dC (.int 0))) (dVar 6)) (dCons (dOpA gAdd (dOpA gIx (dGetK (dVar 2) (dVar 5)) (dC (.int 1))) (dTup (dCons (dVar 6) dNil))) dNil))))
  (dIf (dOr (dTst (dOp2 (gInK true) (dOpA gAdd (dVar 5) (dVar 7)) (dVar 4))) (dTst (dOp2 gLtD (dVar 8) (dGetK (dVar 4) (dOpA gAdd (dVar 5) (dVar 7)))))) (dPutK 4 (dOpA gAdd (dVar 5) (dVar 7)) (dVar 8)) dSkip))
def g_cheapest_2 : D → En → Option En := (gN 5)
def b_cheapest_2 : En → O Fl := (dFor (dSeqI (dVar 3)) g_cheapest_1 b_cheapest_1)
def g_cheapest_3 : D → En → Option En := (gN 3)
def b_cheapest_3 : En → O Fl := (dSeq (dSet 4 (fun ε => .ok (.new (.dK [] [])) ε))
  (dSeq (dFor (dSeqI (dFn gSortedD (dCons (dVar 2) dNil))) g_cheapest_2 b_cheapest_2)
  (dSet 2 (dVar 4))))
def φ_cheapest : En → O R := fnD [0, 1] 7 ((dSeq (dSet 2 (dDisp1 0 (dTup (dCons (dC (.int 0)) (dCons (dTup dNil) dNil)))))
  (dSeq (dFor (dSeqI (dCall φ_prices [false, false] (dCons (dVar 0) (dCons (dVar 1) dNil)))) g_cheapest_3 b_cheapest_3)
  (dRet (dVar 2)))))
theorem sc_cheapest : FnScope N_cheapest ["match", "strokes"] (defScope s_cheapest) := ⟨rfl, rfl, rfl, by decide +kernel, rfl, by decide +kernel, by decide +kernel⟩
theorem ok_cheapest (M : Md K mg) : FnOk P w K mg base (L2.CX P w) 3 M.f_cheapest M.d_cheapest ["match", "strokes"] (spD K T 2 φ_cheapest) := by
  have sc := sc_cheapest
  exact fn_ok (k := 2) (Pr := [0, 1]) 2 7 M.F_cheapest sc rfl rfl fun cdv A outer s H E hr =>
  (dss_cons (ds_set (i := 2) sc.nd (de_disp1 (de_tup (da_cons de_int (da_cons (de_tup da_nil) da_nil)))))
  (dss_cons (ds_for (passes_of rfl) rfl (di_seq (de_call [false, false] (ok_prices M) (hr.mono (by decide)) (by rfl) M.g_prices M.F_prices.kp M.b_prices (takes_of rfl rfl rfl rfl) (da_cons (de_var 0 (pv 0)) (da_cons (de_var 1 (pv 1)) da_nil)) (len_cons (len_cons len_nil)))) (dg_name (i := 3) sc.nd) (dss_cons (ds_set (i := 4) sc.nd de_dnewK)
  (dss_cons (ds_for (passes_of rfl) rfl (di_seq (de_sortedD rfl (by rfl) M.n_sorted (da_cons (de_var 2 (pv 2)) da_nil))) (dg_name (i := 5) sc.nd) (dss_one (ds_for (passes_of rfl) rfl (di_seq (de_var 3 (pv 3))) (dg_tup (n := 2) rfl (dgs_cons (dg_name (i := 6) sc.nd) (dgs_cons (dg_name (i := 7) sc.nd) dgs_nil))) (dss_cons (ds_set (i := 8) sc.nd (de_tup (da_cons (de_add (de_ix (de_getK hr.units (de_var 2 (pv 2)) (de_var 5 (pv 5))) de_int) (de_var 6 (pv 6))) (da_cons (de_add (de_ix (de_getK hr.units (de_var 2 (pv 2)) (de_var 5 (pv 5))) de_int) (de_tup (da_cons (de_var 6 (pv 6)) da_nil))) da_nil))))
  (dss_one (ds_if (dt_bool (dw_or (dt_ninK hr.units (de_add (de_var 5 (pv 5)) (de_var 7 (pv 7))) (de_var 4 (pv 4))) (dw_or1 (dt_ltD hr.units (de_var 8 (pv 8)) (de_getK hr.units (de_var 4 (pv 4)) (de_add (de_var 5 (pv 5)) (de_var 7 (pv 7)))))))) (dss_one (ds_putK 4 hr.units (pv 4) (de_add (de_var 5 (pv 5)) (de_var 7 (pv 7))) (de_var 8 (pv 8)))) dss_nil))))))
  (dss_one (ds_set (i := 2) sc.nd (de_var 4 (pv 4)))))))
  (dss_one (ds_ret (de_var 2 (pv 2))))))
def φ_best_saving : En → O R := fnD [0, 1, 2] 4 ((dSeq (dDrop (dCall φ_need_match [false] (dCons (dVar 0) dNil)))
  (dSeq (dDrop (dCall φ_need_strokes [false] (dCons (dVar 1) dNil)))
  (dSeq (dIf (dNot (dTru (dCall φ_is_from [false, false, false] (dCons (dVar 2) (dCons (dUn gNeg (dFn gLen (dCons (dOpA gIx (dVar 0) (dC (.int 2))) dNil))) (dCons (dFn gLen (dCons (dOpA gIx (dVar 0) (dC (.int 2))) dNil)) dNil)))))) (fun _ => .bad) dSkip)
  (dSeq (dSet 3 (dFn gSum (dCons (dCall φ_holes_of [false, false] (dCons (dVar 0) (dCons (dVar 1) dNil))) dNil)))
  (dSeq (dSet 4 (dCall φ_cheapest [false, false] (dCons (dVar 0) (dCons (dVar 1) dNil))))
  (dSeq (dSet 5 (dLC (dSeqI (dFn gSortedD (dCons (dVar 4) dNil))) (gN 6) (dTst (dOp2 gGe (dOpA gAdd (dVar 3) (dVar 6)) (dVar 2))) (dGetK (dVar 4) (dVar 6)) [6]))
  (dRet (dIfE (dTst (dOp2 gNe (dVar 5) (dLst dNil))) (dFn gMinD (dCons (dVar 5) dNil)) (dC .non))))))))))
theorem sc_best_saving : FnScope N_best_saving ["match", "strokes", "wished"] (defScope s_best_saving) := ⟨rfl, rfl, rfl, by decide +kernel, rfl, by decide +kernel, by decide +kernel⟩
theorem ok_best_saving (M : Md K mg) : FnOk P w K mg base (L2.CX P w) 5 M.f_best_saving M.d_best_saving ["match", "strokes", "wished"] (spD K T 3 φ_best_saving) := by
  have sc := sc_best_saving
  exact fn_ok (k := 4) (Pr := [0, 1, 2]) 3 4 M.F_best_saving sc rfl rfl fun cdv A outer s H E hr =>
  (dss_cons (ds_expr (de_call [false] (ok_need_match M) (hr.mono (by decide)) (by rfl) M.g_need_match M.F_need_match.kp M.b_need_match (takes_of rfl rfl rfl rfl) (da_cons (de_var 0 (pv 0)) da_nil) (len_cons len_nil)))
  (dss_cons (ds_expr (de_call [false] (ok_need_strokes M) (hr.mono (by decide)) (by rfl) M.g_need_strokes M.F_need_strokes.kp M.b_need_strokes (takes_of rfl rfl rfl rfl) (da_cons (de_var 1 (pv 1)) da_nil) (len_cons len_nil)))
  (dss_cons (ds_if (dt_not (dt_tru (de_call [false, false, false] (ok_is_from M) (hr.mono (by decide)) (by rfl) M.g_is_from M.F_is_from.kp M.b_is_from (takes_of rfl rfl rfl rfl) (da_cons (de_var 2 (pv 2)) (da_cons (de_neg (de_len (by rfl) M.n_len (da_cons (de_ix (de_var 0 (pv 0)) de_int) da_nil))) (da_cons (de_len (by rfl) M.n_len (da_cons (de_ix (de_var 0 (pv 0)) de_int) da_nil)) da_nil))) (len_cons (len_cons (len_cons len_nil)))))) (dss_one ds_bad) dss_nil)
  (dss_cons (ds_set (i := 3) sc.nd (de_sum rfl (by rfl) M.n_sum (da_cons (de_call [false, false] (ok_holes_of M) (hr.mono (by decide)) (by rfl) M.g_holes_of M.F_holes_of.kp M.b_holes_of (takes_of rfl rfl rfl rfl) (da_cons (de_var 0 (pv 0)) (da_cons (de_var 1 (pv 1)) da_nil)) (len_cons (len_cons len_nil))) da_nil)))
  (dss_cons (ds_set (i := 4) sc.nd (de_call [false, false] (ok_cheapest M) (hr.mono (by decide)) (by rfl) M.g_cheapest M.F_cheapest.kp M.b_cheapest (takes_of rfl rfl rfl rfl) (da_cons (de_var 0 (pv 0)) (da_cons (de_var 1 (pv 1)) da_nil)) (len_cons (len_cons len_nil))))
  (dss_cons (ds_setLc (i := 5) (own := [("rise", 6)]) rfl sc.nd (sw_true rfl rfl rfl (by decide +kernel)) (di_seq (de_sortedD rfl (by rfl) M.n_sorted (da_cons (de_var 4 (pv 4)) da_nil))) (blkOk_by (N := N_best_saving) (sc := defScope s_best_saving) (by decide +kernel)) (fun _ _ _ _ _ => (dg_name (i := 6) sc.nd)) (fun _ _ _ _ _ => (dts_one (dt_ge (de_add (de_var 3 (pv 3)) (de_var 6 (pv 6))) (de_var 2 (pv 2))))) (fun _ _ _ _ _ => (de_getK hr.units (de_var 4 (pv 4)) (de_var 6 (pv 6)))))
  (dss_one (ds_ret (de_ifE (dt_ne hr.units (de_var 5 (pv 5)) (de_lst da_nil)) (de_minD rfl hr.units (by rfl) M.n_min (da_cons (de_var 5 (pv 5)) da_nil)) de_non)))))))))
def φ_fewest_saved : En → O R := fnD [0, 1, 2] 1 ((dSeq (dSet 3 (dCall φ_best_saving [false, false, false] (dCons (dVar 0) (dCons (dVar 1) (dCons (dVar 2) dNil)))))
  (dRet (dIfE (dTst (dIsN false (dVar 3))) (dC .non) (dOpA gIx (dVar 3) (dC (.int 0)))))))
theorem sc_fewest_saved : FnScope N_fewest_saved ["match", "strokes", "wished"] (defScope s_fewest_saved) := ⟨rfl, rfl, rfl, by decide +kernel, rfl, by decide +kernel, by decide +kernel⟩
theorem ok_fewest_saved (M : Md K mg) : FnOk P w K mg base (L2.CX P w) 6 M.f_fewest_saved M.d_fewest_saved ["match", "strokes", "wished"] (spD K T 3 φ_fewest_saved) := by
  have sc := sc_fewest_saved
  exact fn_ok (k := 5) (Pr := [0, 1, 2]) 3 1 M.F_fewest_saved sc rfl rfl fun cdv A outer s H E hr =>
  (dss_cons (ds_set (i := 3) sc.nd (de_call [false, false, false] (ok_best_saving M) (hr.mono (by decide)) (by rfl) M.g_best_saving M.F_best_saving.kp M.b_best_saving (takes_of rfl rfl rfl rfl) (da_cons (de_var 0 (pv 0)) (da_cons (de_var 1 (pv 1)) (da_cons (de_var 2 (pv 2)) da_nil))) (len_cons (len_cons (len_cons len_nil)))))
  (dss_one (ds_ret (de_ifE (dt_isN (de_var 3 (pv 3))) de_non (de_ix (de_var 3 (pv 3)) de_int)))))
def φ__law_four_right : En → O R := fnD [0] 5 ((dSeq (dSet 1 (dTup (dCons (dTup (dCons (dOpA gAdd (dVar 0) (dC (.int 2))) (dCons (dOpA gAdd (dVar 0) (dC (.int 1))) (dCons (dVar 0) (dCons (dOpA gAdd (dVar 0) (dC (.int 1))) dNil))))) (dCons (dTup (dCons (dVar 0) (dCons (dOpA gAdd (dVar 0) (dC (.int 1))) (dCons (dOpA gAdd (dVar 0) (dC (.int 1))) (dCons (dVar 0) dNil))))) (dCons (dTup (dCons (dC (.int 3)) (dCons (dC (.int 1)) (dCons (dC (.int 4)) (dCons (dC (.int 2)) dNil))))) dNil)))))
  (dSeq (dIf (dOr (dTst (dOp2 gNe (dCall φ_stairs [false] (dCons (dVar 1) dNil)) (dLst (dCons (dUn gNeg (dC (.int 7))) (dCons (dUn gNeg (dC (.int 3))) (dCons (dC (.int 0)) (dCons (dC (.int 1)) (dCons (dC (.int 2)) (dCons (dC (.int 6)) (dCons (dC (.int 7)) (dCons (dC (.int 11)) dNil))))))))))) (dTst (dOp2 gNe (dCall φ_halved [false] (dCons (dVar 1) dNil)) (dTup (dCons (dC (.int 1)) (dCons (dC (.int 1)) dNil)))))) (dRet (dC (.bl false))) dSkip)
  (dSeq (dIf (dTst (dOp2 gNe (dLC (dSeqI (dTup (dCons (dUn gNeg (dC (.int 4))) (dCons (dUn gNeg (dC (.int 1))) (dCons (dC (.int 1)) (dCons (dC (.int 2)) (dCons (dC (.int 4)) dNil))))))) (gN 4) dYes (dCall φ_strokes_for [false, false] (dCons (dVar 1) (dCons (dVar 4) dNil))) [4]) (dLst (dCons (dTup (dCons (dC .non) (dCons (dUn gNeg (dC (.int 8))) dNil))) (dCons (dTup (dCons (dC (.int 0)) (dCons (dC (.int 0)) dNil))) (dCons (dTup (dCons (dC (.int 2)) (dCons (dC (.int 5)) dNil))) (dCons (dTup (dCons (dC (.int 6)) (dCons (dC (.int 6)) dNil))) (dCons (dTup (dCons (dC (.int 11)) (dCons (dC .non) dNil))) dNil)))))))) (dRet (dC (.bl false))) dSkip)
  (dSeq (dIf (dOr (dTst (dOp2 gNe (dCall φ_differences [false] (dCons (dTup (dCons (dUn gNeg (dC (.int 7))) (dCons (dUn gNeg (dC (.int 3))) (dCons (dC (.int 0)) (dCons (dC (.int 1)) (dCons (dC (.int 2)) (dCons (dC (.int 6)) (dCons (dC (.int 7)) (dCons (dC (.int 11)) dNil))))))))) dNil)) (dLst (dCons (dC (.int 0)) (dCons (dC (.int 1)) (dCons (dC (.int 2)) (dCons (dUn gNeg (dC (.int 1))) dNil))))))) (dTru (dCall φ_is_stairs [false] (dCons (dTup (dCons (dUn gNeg (dC (.int 7))) (dCons (dUn gNeg (dC (.int 3))) (dCons (dC (.int 0)) (dCons (dC (.int 1)) (dCons (dC (.int 2)) (dCons (dC (.int 6)) (dCons (dC (.int 8)) (dCons (dC (.int 11)) dNil))))))))) dNil)))) (dRet (dC (.bl false))) dSkip)
  (dSeq (dIf (dTst (dOp2 gNe (dLC (dSeqI (dTup (dCons (dUn gNeg (dC (.int 8))) (dCons (dC (.int 0)) (dCons (dC (.int 1)) (dCons (dC (.int 6)) (dCons (dC (.int 11)) dNil))))))) (gN 5) dYes (dCall φ_result [false, false] (dCons (dVar 1) (dCons (dVar 5) dNil))) [5]) (dLst (dCons (dUn gNeg (dC (.int 4))) (dCons (dUn gNeg (dC (.int 1))) (dCons (dC (.int 0)) (dCons (dC (.int 2)) (dCons (dC (.int 4)) dNil)))))))) (dRet (dC (.bl false))) dSkip)
  (dSeq (dIf (dTst (dOp2 gNe (dCall φ_strokes_at [false, false] (dCons (dVar 1) (dCons (dC (.int 6)) dNil))) (dLst (dCons (dC (.int 1)) (dCons (dC (.int 2)) (dCons (dC (.int 1)) (dCons (dC (.int 2)) dNil))))))) (dRet (dC (.bl false))) dSkip)
  (dSeq (dIf (dOr (dTst (dOp2 gNe (dCall φ_hole_results [false, false] (dCons (dVar 1) (dCons (dC (.int 0)) dNil))) (dLst (dCons (dUn gNeg (dC (.int 1))) (dCons (dC (.int 0)) (dCons (dC (.int 1)) (dCons (dUn gNeg (dC (.int 1))) dNil))))))) (dOr (dTst (dOp2 gNe (dCall φ_ending [false, false] (dCons (dVar 1) (dCons (dC (.int 0)) dNil))) (dTup (dCons (dUn gNeg (dC (.int 1))) (dCons (dC (.str "1 up")) dNil))))) (dTst (dOp2 gNe (dCall φ_ending [false, false] (dCons (dVar 1) (dCons (dC (.int 6)) dNil))) (dTup (dCons (dC (.int 1)) (dCons (dC (.str "2 up")) dNil))))))) (dRet (dC (.bl false))) dSkip)
  (dSeq (dIf (dOr (dTst (dOp2 gNe (dLC (dSeqI (dTup (dCons (dUn gNeg (dC (.int 1))) (dCons (dC (.int 0)) (dCons (dC (.int 1)) (dCons (dC (.int 2)) dNil)))))) (gN 4) dYes (dCall φ_fewest_saved [false, false, false] (dCons (dVar 1) (dCons (dC (.int 0)) (dCons (dVar 4) dNil)))) [4]) (dLst (dCons (dC (.int 0)) (dCons (dC (.int 1)) (dCons (dC (.int 2)) (dCons (dC (.int 3)) dNil))))))) (dTst (dOp2 gNe (dCall φ_holes_played [false, false] (dCons (dVar 1) (dCons (dC (.int 0)) dNil))) (dC (.int 4))))) (dRet (dC (.bl false))) dSkip)
  (dSeq (dPar 2 3 (dCons (dOpA gIx (dVar 1) (dC (.int 0))) (dCons (dOpA gIx (dVar 1) (dC (.int 1))) dNil)))
  (dSeq (dIf (dOr (dTst (dOp2 gNe (dCall φ_count_orders [false, false, false, false] (dCons (dVar 2) (dCons (dVar 3) (dCons (dC (.int 1)) (dCons (dC (.int 0)) dNil))))) (dC (.int 12)))) (dTst (dOp2 gNe (dCall φ_count_orders [false, false, false, false] (dCons (dVar 2) (dCons (dVar 3) (dCons (dC (.int 2)) (dCons (dC (.int 1)) dNil))))) (dC (.int 4))))) (dRet (dC (.bl false))) dSkip)
  (dSeq (dIf (dOr (dTst (dOp2 gNe (dCall φ_possible_results [false, false, false, false] (dCons (dVar 2) (dCons (dVar 3) (dCons (dTup dNil) (dCons (dC (.int 2)) dNil))))) (dLst (dCons (dUn gNeg (dC (.int 1))) (dCons (dC (.int 0)) (dCons (dC (.int 1)) dNil)))))) (dTst (dOp2 gNe (dCall φ_possible_results [false, false, false, false] (dCons (dVar 2) (dCons (dVar 3) (dCons (dTup (dCons (dTup (dCons (dC (.int 3)) (dCons (dC (.int 0)) dNil))) dNil)) (dCons (dC (.int 2)) dNil))))) (dLst (dCons (dUn gNeg (dC (.int 1))) (dCons (dC (.int 0)) dNil)))))) (dRet (dC (.bl false))) dSkip)
  (dRet (dAndV (dOp2 gEq (dCall φ_count_indexes [false, false, false] (dCons (dVar 2) (dCons (dVar 3) (dCons (dTup (dCons (dTup (dCons (dC (.int 1)) (dCons (dC (.int 0)) dNil))) (dCons (dTup (dCons (dC (.int 2)) (dCons (dC (.int 0)) dNil))) dNil))) dNil)))) (dC (.int 8))) (dOp2 gEq (dCall φ_holes_played [false, false] (dCons (dVar 1) (dCons (dC (.int 11)) dNil))) (dC (.int 3)))))))))))))))))
theorem sc__law_four_right : FnScope N__law_four_right ["_law_t"] (defScope s__law_four_right) := ⟨rfl, rfl, rfl, by decide +kernel, rfl, by decide +kernel, by decide +kernel⟩
theorem ok__law_four_right (M : Md K mg) : FnOk P w K mg base (L2.CX P w) 7 M.f__law_four_right M.d__law_four_right ["_law_t"] (spD K T 1 φ__law_four_right) := by
  have sc := sc__law_four_right
  exact fn_ok (k := 6) (Pr := [0]) 1 5 M.F__law_four_right sc rfl rfl fun cdv A outer s H E hr =>
  (dss_cons (ds_set (i := 1) sc.nd (de_tup (da_cons (de_tup (da_cons (de_add (de_var 0 (pv 0)) de_int) (da_cons (de_add (de_var 0 (pv 0)) de_int) (da_cons (de_var 0 (pv 0)) (da_cons (de_add (de_var 0 (pv 0)) de_int) da_nil))))) (da_cons (de_tup (da_cons (de_var 0 (pv 0)) (da_cons (de_add (de_var 0 (pv 0)) de_int) (da_cons (de_add (de_var 0 (pv 0)) de_int) (da_cons (de_var 0 (pv 0)) da_nil))))) (da_cons (de_tup (da_cons de_int (da_cons de_int (da_cons de_int (da_cons de_int da_nil))))) da_nil)))))
  (dss_cons (ds_if (dt_bool (dw_or (dt_ne hr.units (de_call [false] (ok_stairs M) (hr.mono (by decide)) (by rfl) M.g_stairs M.F_stairs.kp M.b_stairs (takes_of rfl rfl rfl rfl) (da_cons (de_var 1 (pv 1)) da_nil) (len_cons len_nil)) (de_lst (da_cons (de_neg de_int) (da_cons (de_neg de_int) (da_cons de_int (da_cons de_int (da_cons de_int (da_cons de_int (da_cons de_int (da_cons de_int da_nil)))))))))) (dw_or1 (dt_ne hr.units (de_call [false] (ok_halved M) (hr.mono (by decide)) (by rfl) M.g_halved M.F_halved.kp M.b_halved (takes_of rfl rfl rfl rfl) (da_cons (de_var 1 (pv 1)) da_nil) (len_cons len_nil)) (de_tup (da_cons de_int (da_cons de_int da_nil))))))) (dss_one (ds_ret de_bl)) dss_nil)
  (dss_cons (ds_if (dt_ne hr.units (de_lc (own := [("_law_wished", 4)]) rfl sc.nd (di_seq (de_tup (da_cons (de_neg de_int) (da_cons (de_neg de_int) (da_cons de_int (da_cons de_int (da_cons de_int da_nil))))))) (blkOk_by (N := N__law_four_right) (sc := defScope s__law_four_right) (by decide +kernel)) (fun _ _ _ _ _ => (dg_name (i := 4) sc.nd)) (fun _ _ _ _ _ => dts_nil) (fun _ _ _ _ _ => (de_call [false, false] (ok_strokes_for M) (hr.mono (by decide)) (by rfl) M.g_strokes_for M.F_strokes_for.kp M.b_strokes_for takes0 (da_cons (de_var 1 (pv 1)) (da_cons (de_var 4 (pv 4)) da_nil)) (len_cons (len_cons len_nil))))) (de_lst (da_cons (de_tup (da_cons de_non (da_cons (de_neg de_int) da_nil))) (da_cons (de_tup (da_cons de_int (da_cons de_int da_nil))) (da_cons (de_tup (da_cons de_int (da_cons de_int da_nil))) (da_cons (de_tup (da_cons de_int (da_cons de_int da_nil))) (da_cons (de_tup (da_cons de_int (da_cons de_non da_nil))) da_nil))))))) (dss_one (ds_ret de_bl)) dss_nil)
  (dss_cons (ds_if (dt_bool (dw_or (dt_ne hr.units (de_call [false] (ok_differences M) (hr.mono (by decide)) (by rfl) M.g_differences M.F_differences.kp M.b_differences (takes_of rfl rfl rfl rfl) (da_cons (de_tup (da_cons (de_neg de_int) (da_cons (de_neg de_int) (da_cons de_int (da_cons de_int (da_cons de_int (da_cons de_int (da_cons de_int (da_cons de_int da_nil))))))))) da_nil) (len_cons len_nil)) (de_lst (da_cons de_int (da_cons de_int (da_cons de_int (da_cons (de_neg de_int) da_nil)))))) (dw_or1 (dt_tru (de_call [false] (ok_is_stairs M) (hr.mono (by decide)) (by rfl) M.g_is_stairs M.F_is_stairs.kp M.b_is_stairs (takes_of rfl rfl rfl rfl) (da_cons (de_tup (da_cons (de_neg de_int) (da_cons (de_neg de_int) (da_cons de_int (da_cons de_int (da_cons de_int (da_cons de_int (da_cons de_int (da_cons de_int da_nil))))))))) da_nil) (len_cons len_nil)))))) (dss_one (ds_ret de_bl)) dss_nil)
  (dss_cons (ds_if (dt_ne hr.units (de_lc (own := [("_law_strokes", 5)]) rfl sc.nd (di_seq (de_tup (da_cons (de_neg de_int) (da_cons de_int (da_cons de_int (da_cons de_int (da_cons de_int da_nil))))))) (blkOk_by (N := N__law_four_right) (sc := defScope s__law_four_right) (by decide +kernel)) (fun _ _ _ _ _ => (dg_name (i := 5) sc.nd)) (fun _ _ _ _ _ => dts_nil) (fun _ _ _ _ _ => (de_call [false, false] (ok_result M) (hr.mono (by decide)) (by rfl) M.g_result M.F_result.kp M.b_result takes0 (da_cons (de_var 1 (pv 1)) (da_cons (de_var 5 (pv 5)) da_nil)) (len_cons (len_cons len_nil))))) (de_lst (da_cons (de_neg de_int) (da_cons (de_neg de_int) (da_cons de_int (da_cons de_int (da_cons de_int da_nil))))))) (dss_one (ds_ret de_bl)) dss_nil)
  (dss_cons (ds_if (dt_ne hr.units (de_call [false, false] (ok_strokes_at M) (hr.mono (by decide)) (by rfl) M.g_strokes_at M.F_strokes_at.kp M.b_strokes_at (takes_of rfl rfl rfl rfl) (da_cons (de_var 1 (pv 1)) (da_cons de_int da_nil)) (len_cons (len_cons len_nil))) (de_lst (da_cons de_int (da_cons de_int (da_cons de_int (da_cons de_int da_nil)))))) (dss_one (ds_ret de_bl)) dss_nil)
  (dss_cons (ds_if (dt_bool (dw_or (dt_ne hr.units (de_call [false, false] (ok_hole_results M) (hr.mono (by decide)) (by rfl) M.g_hole_results M.F_hole_results.kp M.b_hole_results (takes_of rfl rfl rfl rfl) (da_cons (de_var 1 (pv 1)) (da_cons de_int da_nil)) (len_cons (len_cons len_nil))) (de_lst (da_cons (de_neg de_int) (da_cons de_int (da_cons de_int (da_cons (de_neg de_int) da_nil)))))) (dw_or (dt_ne hr.units (de_call [false, false] (ok_ending M) (hr.mono (by decide)) (by rfl) M.g_ending M.F_ending.kp M.b_ending (takes_of rfl rfl rfl rfl) (da_cons (de_var 1 (pv 1)) (da_cons de_int da_nil)) (len_cons (len_cons len_nil))) (de_tup (da_cons (de_neg de_int) (da_cons de_str da_nil)))) (dw_or1 (dt_ne hr.units (de_call [false, false] (ok_ending M) (hr.mono (by decide)) (by rfl) M.g_ending M.F_ending.kp M.b_ending (takes_of rfl rfl rfl rfl) (da_cons (de_var 1 (pv 1)) (da_cons de_int da_nil)) (len_cons (len_cons len_nil))) (de_tup (da_cons de_int (da_cons de_str da_nil)))))))) (dss_one (ds_ret de_bl)) dss_nil)
  (dss_cons (ds_if (dt_bool (dw_or (dt_ne hr.units (de_lc (own := [("_law_wished", 4)]) rfl sc.nd (di_seq (de_tup (da_cons (de_neg de_int) (da_cons de_int (da_cons de_int (da_cons de_int da_nil)))))) (blkOk_by (N := N__law_four_right) (sc := defScope s__law_four_right) (by decide +kernel)) (fun _ _ _ _ _ => (dg_name (i := 4) sc.nd)) (fun _ _ _ _ _ => dts_nil) (fun _ _ _ _ _ => (de_call [false, false, false] (ok_fewest_saved M) (hr.mono (by decide)) (by rfl) M.g_fewest_saved M.F_fewest_saved.kp M.b_fewest_saved takes0 (da_cons (de_var 1 (pv 1)) (da_cons de_int (da_cons (de_var 4 (pv 4)) da_nil))) (len_cons (len_cons (len_cons len_nil)))))) (de_lst (da_cons de_int (da_cons de_int (da_cons de_int (da_cons de_int da_nil)))))) (dw_or1 (dt_ne hr.units (de_call [false, false] (ok_holes_played M) (hr.mono (by decide)) (by rfl) M.g_holes_played M.F_holes_played.kp M.b_holes_played (takes_of rfl rfl rfl rfl) (da_cons (de_var 1 (pv 1)) (da_cons de_int da_nil)) (len_cons (len_cons len_nil))) de_int)))) (dss_one (ds_ret de_bl)) dss_nil)
  (dss_cons (ds_par (i := 2) (j := 3) rfl sc.nd (da_cons (de_ix (de_var 1 (pv 1)) de_int) (da_cons (de_ix (de_var 1 (pv 1)) de_int) da_nil)) (by rfl))
  (dss_cons (ds_if (dt_bool (dw_or (dt_ne hr.units (de_call [false, false, false, false] (ok_count_orders M) (hr.mono (by decide)) (by rfl) M.g_count_orders M.F_count_orders.kp M.b_count_orders (takes_of rfl rfl rfl rfl) (da_cons (de_var 2 (pv 2)) (da_cons (de_var 3 (pv 3)) (da_cons de_int (da_cons de_int da_nil)))) (len_cons (len_cons (len_cons (len_cons len_nil))))) de_int) (dw_or1 (dt_ne hr.units (de_call [false, false, false, false] (ok_count_orders M) (hr.mono (by decide)) (by rfl) M.g_count_orders M.F_count_orders.kp M.b_count_orders (takes_of rfl rfl rfl rfl) (da_cons (de_var 2 (pv 2)) (da_cons (de_var 3 (pv 3)) (da_cons de_int (da_cons de_int da_nil)))) (len_cons (len_cons (len_cons (len_cons len_nil))))) de_int)))) (dss_one (ds_ret de_bl)) dss_nil)
  (dss_cons (ds_if (dt_bool (dw_or (dt_ne hr.units (de_call [false, false, false, false] (ok_possible_results M) (hr.mono (by decide)) (by rfl) M.g_possible_results M.F_possible_results.kp M.b_possible_results (takes_of rfl rfl rfl rfl) (da_cons (de_var 2 (pv 2)) (da_cons (de_var 3 (pv 3)) (da_cons (de_tup da_nil) (da_cons de_int da_nil)))) (len_cons (len_cons (len_cons (len_cons len_nil))))) (de_lst (da_cons (de_neg de_int) (da_cons de_int (da_cons de_int da_nil))))) (dw_or1 (dt_ne hr.units (de_call [false, false, false, false] (ok_possible_results M) (hr.mono (by decide)) (by rfl) M.g_possible_results M.F_possible_results.kp M.b_possible_results (takes_of rfl rfl rfl rfl) (da_cons (de_var 2 (pv 2)) (da_cons (de_var 3 (pv 3)) (da_cons (de_tup (da_cons (de_tup (da_cons de_int (da_cons de_int da_nil))) da_nil)) (da_cons de_int da_nil)))) (len_cons (len_cons (len_cons (len_cons len_nil))))) (de_lst (da_cons (de_neg de_int) (da_cons de_int da_nil))))))) (dss_one (ds_ret de_bl)) dss_nil)
  (dss_one (ds_ret (de_and (de_eq hr.units (de_call [false, false, false] (ok_count_indexes M) (hr.mono (by decide)) (by rfl) M.g_count_indexes M.F_count_indexes.kp M.b_count_indexes (takes_of rfl rfl rfl rfl) (da_cons (de_var 2 (pv 2)) (da_cons (de_var 3 (pv 3)) (da_cons (de_tup (da_cons (de_tup (da_cons de_int (da_cons de_int da_nil))) (da_cons (de_tup (da_cons de_int (da_cons de_int da_nil))) da_nil))) da_nil))) (len_cons (len_cons (len_cons len_nil)))) de_int) (de_one (de_eq hr.units (de_call [false, false] (ok_holes_played M) (hr.mono (by decide)) (by rfl) M.g_holes_played M.F_holes_played.kp M.b_holes_played (takes_of rfl rfl rfl rfl) (da_cons (de_var 1 (pv 1)) (da_cons de_int da_nil)) (len_cons (len_cons len_nil))) de_int))))))))))))))))
def φ_is_group : En → O R := fnD [0] 3 ((dSeq (dIf (dOr (dNot (dTru (dFn gIsi5 (dCons (dVar 0) (dCons (dC (.ty "tuple")) dNil))))) (dOr (dTst (dOp2 gNe (dFn gLen (dCons (dVar 0) dNil)) (dC (.int 2)))) (dNot (dTru (dFn gIsi5 (dCons (dOpA gIx (dVar 0) (dC (.int 0))) (dCons (dC (.ty "tuple")) dNil))))))) (dRet (dC (.bl false))) dSkip)
  (dSeq (dAsg (gTupD 2 (gCons (gN 1) (gCons (gN 2) gNil))) (dVar 0))
  (dSeq (dIf (dOr (dNot (dTst (dCh gLe gLe (dC (.int 2)) (dFn gLen (dCons (dVar 1) dNil)) (dC (.int 8))))) (dNot (dTru (dFn gAll (dCons (dLC (dSeqI (dVar 1)) (gN 3) dYes (dCall φ_good_scores [false] (dCons (dVar 3) dNil)) [3]) dNil))))) (dRet (dC (.bl false))) dSkip)
  (dRet (dAndV (dOp2 gEq (dLenSet (dLC (dSeqI (dVar 1)) (gN 3) dYes (dFn gLen (dCons (dVar 3) dNil)) [3])) (dC (.int 1))) (dCall φ_good_index [false, false] (dCons (dFn gLen (dCons (dOpA gIx (dVar 1) (dC (.int 0))) dNil)) (dCons (dVar 2) dNil)))))))))
theorem sc_is_group : FnScope N_is_group ["value"] (defScope s_is_group) := ⟨rfl, rfl, rfl, by decide +kernel, rfl, by decide +kernel, by decide +kernel⟩
theorem ok_is_group (M : Md K mg) : FnOk P w K mg base (L2.CX P w) 3 M.f_is_group M.d_is_group ["value"] (spD K T 1 φ_is_group) := by
  have sc := sc_is_group
  exact fn_ok (k := 2) (Pr := [0]) 1 3 M.F_is_group sc rfl rfl fun cdv A outer s H E hr =>
  (dss_cons (ds_if (dt_bool (dw_or (dt_not (dt_tru (de_isi (by rfl) M.n_isinstance (da_cons (de_var 0 (pv 0)) (da_cons (de_ty (by rfl) M.n_tuple) da_nil))))) (dw_or (dt_ne hr.units (de_len (by rfl) M.n_len (da_cons (de_var 0 (pv 0)) da_nil)) de_int) (dw_or1 (dt_not (dt_tru (de_isi (by rfl) M.n_isinstance (da_cons (de_ix (de_var 0 (pv 0)) de_int) (da_cons (de_ty (by rfl) M.n_tuple) da_nil))))))))) (dss_one (ds_ret de_bl)) dss_nil)
  (dss_cons (ds_asg (de_var 0 (pv 0)) (dg_tup (n := 2) rfl (dgs_cons (dg_name (i := 1) sc.nd) (dgs_cons (dg_name (i := 2) sc.nd) dgs_nil))))
  (dss_cons (ds_if (dt_bool (dw_or (dt_not (dt_lele de_int (de_len (by rfl) M.n_len (da_cons (de_var 1 (pv 1)) da_nil)) (de_glob (by rfl) M.c_MOST_PLAYERS))) (dw_or1 (dt_not (dt_tru (de_all rfl (by rfl) M.n_all (da_cons (de_lc (own := [("row", 3)]) rfl sc.nd (di_seq (de_var 1 (pv 1))) (blkOk_by (N := N_is_group) (sc := defScope s_is_group) (by decide +kernel)) (fun _ _ _ _ _ => (dg_name (i := 3) sc.nd)) (fun _ _ _ _ _ => dts_nil) (fun _ _ _ _ _ => (de_call [false] (ok_good_scores M) (hr.mono (by decide)) (by rfl) M.g_good_scores M.F_good_scores.kp M.b_good_scores takes0 (da_cons (de_var 3 (pv 3)) da_nil) (len_cons len_nil)))) da_nil))))))) (dss_one (ds_ret de_bl)) dss_nil)
  (dss_one (ds_ret (de_and (de_eq hr.units (de_lenSet rfl (by rfl) M.n_len (by rfl) M.n_set (de_lc (own := [("row", 3)]) rfl sc.nd (di_seq (de_var 1 (pv 1))) (blkOk_by (N := N_is_group) (sc := defScope s_is_group) (by decide +kernel)) (fun _ _ _ _ _ => (dg_name (i := 3) sc.nd)) (fun _ _ _ _ _ => dts_nil) (fun _ _ _ _ _ => (de_len (by rfl) M.n_len (da_cons (de_var 3 (pv 3)) da_nil))))) de_int) (de_one (de_call [false, false] (ok_good_index M) (hr.mono (by decide)) (by rfl) M.g_good_index M.F_good_index.kp M.b_good_index (takes_of rfl rfl rfl rfl) (da_cons (de_len (by rfl) M.n_len (da_cons (de_ix (de_var 1 (pv 1)) de_int) da_nil)) (da_cons (de_var 2 (pv 2)) da_nil)) (len_cons (len_cons len_nil))))))))))
def φ_all_halved : En → O R := fnD [0] 3 ((dSeq (dIf (dNot (dTru (dCall φ_is_group [false] (dCons (dVar 0) dNil)))) (fun _ => .bad) dSkip)
  (dSeq (dSet 1 (dFn gLen (dCons (dOpA gIx (dVar 0) (dC (.int 0))) dNil)))
  (dRet (dFn gTuple (dCons (dLC2 (dRng1 (dCons (dVar 1) dNil)) (gN 2) dYes (dRng2 (dCons (dOpA gAdd (dVar 2) (dC (.int 1))) (dCons (dVar 1) dNil))) (gN 3) dYes (dTup (dCons (dVar 2) (dCons (dVar 3) (dCons (dC (.int 0)) dNil)))) [2, 3] [3]) dNil))))))
theorem sc_all_halved : FnScope N_all_halved ["group"] (defScope s_all_halved) := ⟨rfl, rfl, rfl, by decide +kernel, rfl, by decide +kernel, by decide +kernel⟩
theorem ok_all_halved (M : Md K mg) : FnOk P w K mg base (L2.CX P w) 4 M.f_all_halved M.d_all_halved ["group"] (spD K T 1 φ_all_halved) := by
  have sc := sc_all_halved
  exact fn_ok (k := 3) (Pr := [0]) 1 3 M.F_all_halved sc rfl rfl fun cdv A outer s H E hr =>
  (dss_cons (ds_if (dt_not (dt_tru (de_call [false] (ok_is_group M) (hr.mono (by decide)) (by rfl) M.g_is_group M.F_is_group.kp M.b_is_group (takes_of rfl rfl rfl rfl) (da_cons (de_var 0 (pv 0)) da_nil) (len_cons len_nil)))) (dss_one ds_bad) dss_nil)
  (dss_cons (ds_set (i := 1) sc.nd (de_len (by rfl) M.n_len (da_cons (de_ix (de_var 0 (pv 0)) de_int) da_nil)))
  (dss_one (ds_ret (de_tuple (by rfl) M.n_tuple (da_cons (de_lc2 (own := [("one", 2), ("other", 3)]) [3] rfl sc.nd (di_range1 (by rfl) M.n_range (da_cons (de_var 1 (pv 1)) da_nil)) (blkOk_by (N := N_all_halved) (sc := defScope s_all_halved) (by decide +kernel)) (fun _ _ _ _ _ => (dg_name (i := 2) sc.nd)) (fun _ _ _ _ _ => dts_nil) (fun _ _ _ _ _ => (di_range2 (by rfl) M.n_range (da_cons (de_add (de_var 2 (pv 2)) de_int) (da_cons (de_var 1 (pv 1)) da_nil)))) (fun _ _ _ _ _ => (dg_name (i := 3) sc.nd)) (fun _ _ _ _ _ => dts_nil) (fun _ _ _ _ _ => (de_tup (da_cons (de_var 2 (pv 2)) (da_cons (de_var 3 (pv 3)) (da_cons de_int da_nil)))))) da_nil))))))
def φ_good_handicaps : En → O R := fnD [0, 1] 1 ((dSeq (dIf (dOr (dNot (dTru (dFn gIsi5 (dCons (dVar 1) (dCons (dC (.ty "tuple")) dNil))))) (dTst (dOp2 gNe (dFn gLen (dCons (dVar 1) dNil)) (dFn gLen (dCons (dOpA gIx (dVar 0) (dC (.int 0))) dNil))))) (dRet (dC (.bl false))) dSkip)
  (dRet (dFn gAll (dCons (dLC (dSeqI (dVar 1)) (gN 2) dYes (dCall φ_is_from [false, false, false] (dCons (dVar 2) (dCons (dUn gNeg (dC (.int 1000))) (dCons (dC (.int 1000)) dNil)))) [2]) dNil)))))
theorem sc_good_handicaps : FnScope N_good_handicaps ["group", "value"] (defScope s_good_handicaps) := ⟨rfl, rfl, rfl, by decide +kernel, rfl, by decide +kernel, by decide +kernel⟩
theorem ok_good_handicaps (M : Md K mg) : FnOk P w K mg base (L2.CX P w) 2 M.f_good_handicaps M.d_good_handicaps ["group", "value"] (spD K T 2 φ_good_handicaps) := by
  have sc := sc_good_handicaps
  exact fn_ok (k := 1) (Pr := [0, 1]) 2 1 M.F_good_handicaps sc rfl rfl fun cdv A outer s H E hr =>
  (dss_cons (ds_if (dt_bool (dw_or (dt_not (dt_tru (de_isi (by rfl) M.n_isinstance (da_cons (de_var 1 (pv 1)) (da_cons (de_ty (by rfl) M.n_tuple) da_nil))))) (dw_or1 (dt_ne hr.units (de_len (by rfl) M.n_len (da_cons (de_var 1 (pv 1)) da_nil)) (de_len (by rfl) M.n_len (da_cons (de_ix (de_var 0 (pv 0)) de_int) da_nil)))))) (dss_one (ds_ret de_bl)) dss_nil)
  (dss_one (ds_ret (de_all rfl (by rfl) M.n_all (da_cons (de_lc (own := [("one", 2)]) rfl sc.nd (di_seq (de_var 1 (pv 1))) (blkOk_by (N := N_good_handicaps) (sc := defScope s_good_handicaps) (by decide +kernel)) (fun _ _ _ _ _ => (dg_name (i := 2) sc.nd)) (fun _ _ _ _ _ => dts_nil) (fun _ _ _ _ _ => (de_call [false, false, false] (ok_is_from M) (hr.mono (by decide)) (by rfl) M.g_is_from M.F_is_from.kp M.b_is_from takes0 (da_cons (de_var 2 (pv 2)) (da_cons (de_neg (de_glob (by rfl) M.c_MOST_HANDICAP)) (da_cons (de_glob (by rfl) M.c_MOST_HANDICAP) da_nil))) (len_cons (len_cons (len_cons len_nil)))))) da_nil)))))
def φ_match_of : En → O R := fnD [0, 1, 2] 0 ((dRet (dTup (dCons (dOpA gIx (dOpA gIx (dVar 0) (dC (.int 0))) (dVar 1)) (dCons (dOpA gIx (dOpA gIx (dVar 0) (dC (.int 0))) (dVar 2)) (dCons (dOpA gIx (dVar 0) (dC (.int 1))) dNil))))))
theorem sc_match_of : FnScope N_match_of ["group", "one", "other"] (defScope s_match_of) := ⟨rfl, rfl, rfl, by decide +kernel, rfl, by decide +kernel, by decide +kernel⟩
theorem ok_match_of (M : Md K mg) : FnOk P w K mg base (L2.CX P w) 1 M.f_match_of M.d_match_of ["group", "one", "other"] (spD K T 3 φ_match_of) := by
  have sc := sc_match_of
  exact fn_ok (k := 0) (Pr := [0, 1, 2]) 3 0 M.F_match_of sc rfl rfl fun cdv A outer s H E hr =>
  (dss_one (ds_ret (de_tup (da_cons (de_ix (de_ix (de_var 0 (pv 0)) de_int) (de_var 1 (pv 1))) (da_cons (de_ix (de_ix (de_var 0 (pv 0)) de_int) (de_var 2 (pv 2))) (da_cons (de_ix (de_var 0 (pv 0)) de_int) da_nil))))))
def g_results_1 : D → En → Option En := (gN 4)
def b_results_1 : En → O Fl := (dSeq (dSet 5 (dLC (dRng1 (dCons (dVar 3) dNil)) (gN 6) dYes (dFn gSum (dCons (dCall φ_holes_of [false, false] (dCons (dCall φ_match_of [false, false, false] (dCons (dVar 0) (dCons (dVar 4) (dCons (dVar 6) dNil)))) (dCons (dOp2 gSub (dOpA gIx (dVar 1) (dVar 4)) (dOpA gIx (dVar 1) (dVar 6))) dNil))) dNil)) [6]))
  (dDrop (dM 2 isL mApp (dCons (dVar 5) dNil))))
def φ_results : En → O R := fnD [0, 1] 5 ((dSeq (dIf (dNot (dTru (dCall φ_is_group [false] (dCons (dVar 0) dNil)))) (fun _ => .bad) dSkip)
  (dSeq (dIf (dNot (dTru (dCall φ_good_handicaps [false, false] (dCons (dVar 0) (dCons (dVar 1) dNil))))) (fun _ => .bad) dSkip)
  (dSeq (dPar 2 3 (dCons (dLst dNil) (dCons (dFn gLen (dCons (dOpA gIx (dVar 0) (dC (.int 0))) dNil)) dNil)))
  (dSeq (dFor (dRng1 (dCons (dVar 3) dNil)) g_results_1 b_results_1)
  (dRet (dVar 2)))))))
theorem sc_results : FnScope N_results ["group", "handicaps"] (defScope s_results) := ⟨rfl, rfl, rfl, by decide +kernel, rfl, by decide +kernel, by decide +kernel⟩
theorem ok_results (M : Md K mg) : FnOk P w K mg base (L2.CX P w) 4 M.f_results M.d_results ["group", "handicaps"] (spD K T 2 φ_results) := by
  have sc := sc_results
  exact fn_ok (k := 3) (Pr := [0, 1]) 2 5 M.F_results sc rfl rfl fun cdv A outer s H E hr =>
  (dss_cons (ds_if (dt_not (dt_tru (de_call [false] (ok_is_group M) (hr.mono (by decide)) (by rfl) M.g_is_group M.F_is_group.kp M.b_is_group (takes_of rfl rfl rfl rfl) (da_cons (de_var 0 (pv 0)) da_nil) (len_cons len_nil)))) (dss_one ds_bad) dss_nil)
  (dss_cons (ds_if (dt_not (dt_tru (de_call [false, false] (ok_good_handicaps M) (hr.mono (by decide)) (by rfl) M.g_good_handicaps M.F_good_handicaps.kp M.b_good_handicaps (takes_of rfl rfl rfl rfl) (da_cons (de_var 0 (pv 0)) (da_cons (de_var 1 (pv 1)) da_nil)) (len_cons (len_cons len_nil))))) (dss_one ds_bad) dss_nil)
  (dss_cons (ds_par (i := 2) (j := 3) rfl sc.nd (da_cons (de_lst da_nil) (da_cons (de_len (by rfl) M.n_len (da_cons (de_ix (de_var 0 (pv 0)) de_int) da_nil)) da_nil)) (by rfl))
  (dss_cons (ds_for (passes_of rfl) rfl (di_range1 (by rfl) M.n_range (da_cons (de_var 3 (pv 3)) da_nil)) (dg_name (i := 4) sc.nd) (dss_cons (ds_setLc (i := 5) (own := [("other", 6)]) rfl sc.nd (sw_true rfl rfl rfl (by decide +kernel)) (di_range1 (by rfl) M.n_range (da_cons (de_var 3 (pv 3)) da_nil)) (blkOk_by (N := N_results) (sc := defScope s_results) (by decide +kernel)) (fun _ _ _ _ _ => (dg_name (i := 6) sc.nd)) (fun _ _ _ _ _ => dts_nil) (fun _ _ _ _ _ => (de_sum rfl (by rfl) M.n_sum (da_cons (de_call [false, false] (ok_holes_of M) (hr.mono (by decide)) (by rfl) M.g_holes_of M.F_holes_of.kp M.b_holes_of takes0 (da_cons (de_call [false, false, false] (ok_match_of M) (hr.mono (by decide)) (by rfl) M.g_match_of M.F_match_of.kp M.b_match_of takes0 (da_cons (de_var 0 (pv 0)) (da_cons (de_var 4 (pv 4)) (da_cons (de_var 6 (pv 6)) da_nil))) (len_cons (len_cons (len_cons len_nil)))) (da_cons (de_sub (de_ix (de_var 1 (pv 1)) (de_var 4 (pv 4))) (de_ix (de_var 1 (pv 1)) (de_var 6 (pv 6)))) da_nil)) (len_cons (len_cons len_nil))) da_nil))))
  (dss_one (ds_expr (de_m (i := 2) (kd := isL) PySem.F.plainAttrs_list PySem.F.slot_list_append PySem.F.type_list_append mt_append mt_app tyL (pv 2) (da_cons (de_var 5 (pv 5)) da_nil))))))
  (dss_one (ds_ret (de_var 2 (pv 2))))))))
def g_good_wishes_1 : D → En → Option En := (gN 2)
def b_good_wishes_1 : En → O Fl := (dSeq (dIf (dOr (dNot (dTru (dFn gIsi5 (dCons (dVar 2) (dCons (dC (.ty "tuple")) dNil))))) (dOr (dTst (dOp2 gNe (dFn gLen (dCons (dVar 2) dNil)) (dC (.int 3)))) (dNot (dTru (dCall φ_is_from [false, false, false] (dCons (dOpA gIx (dVar 2) (dC (.int 0))) (dCons (dC (.int 0)) (dCons (dOp2 gSub (dFn gLen (dCons (dOpA gIx (dVar 0) (dC (.int 0))) dNil)) (dC (.int 1))) dNil)))))))) (dRet (dC (.bl false))) dSkip)
  (dIf (dOr (dNot (dTru (dCall φ_is_from [false, false, false] (dCons (dOpA gIx (dVar 2) (dC (.int 1))) (dCons (dOpA gAdd (dOpA gIx (dVar 2) (dC (.int 0))) (dC (.int 1))) (dCons (dOp2 gSub (dFn gLen (dCons (dOpA gIx (dVar 0) (dC (.int 0))) dNil)) (dC (.int 1))) dNil)))))) (dNot (dTru (dCall φ_is_from [false, false, false] (dCons (dOpA gIx (dVar 2) (dC (.int 2))) (dCons (dUn gNeg (dFn gLen (dCons (dOpA gIx (dVar 0) (dC (.int 1))) dNil))) (dCons (dFn gLen (dCons (dOpA gIx (dVar 0) (dC (.int 1))) dNil)) dNil))))))) (dRet (dC (.bl false))) dSkip))
def φ_good_wishes : En → O R := fnD [0, 1] 3 ((dSeq (dIf (dNot (dTru (dFn gIsi5 (dCons (dVar 1) (dCons (dC (.ty "tuple")) dNil))))) (dRet (dC (.bl false))) dSkip)
  (dSeq (dFor (dSeqI (dVar 1)) g_good_wishes_1 b_good_wishes_1)
  (dRet (dFn gAll (dCons (dLC (dZip2 (dCons (dVar 1) (dCons (dSl (dVar 1) (dOS (dC (.int 1))) dON) dNil))) (gTupD 2 (gCons (gN 3) (gCons (gN 4) gNil))) dYes (dOp2 gLtD (dSl (dVar 3) dON (dOS (dC (.int 2)))) (dSl (dVar 4) dON (dOS (dC (.int 2))))) [3, 4]) dNil))))))
theorem sc_good_wishes : FnScope N_good_wishes ["group", "value"] (defScope s_good_wishes) := ⟨rfl, rfl, rfl, by decide +kernel, rfl, by decide +kernel, by decide +kernel⟩
theorem ok_good_wishes (M : Md K mg) : FnOk P w K mg base (L2.CX P w) 2 M.f_good_wishes M.d_good_wishes ["group", "value"] (spD K T 2 φ_good_wishes) := by
  have sc := sc_good_wishes
  exact fn_ok (k := 1) (Pr := [0, 1]) 2 3 M.F_good_wishes sc rfl rfl fun cdv A outer s H E hr =>
  (dss_cons (ds_if (dt_not (dt_tru (de_isi (by rfl) M.n_isinstance (da_cons (de_var 1 (pv 1)) (da_cons (de_ty (by rfl) M.n_tuple) da_nil))))) (dss_one (ds_ret de_bl)) dss_nil)
  (dss_cons (ds_for (passes_of rfl) rfl (di_seq (de_var 1 (pv 1))) (dg_name (i := 2) sc.nd) (dss_cons (ds_if (dt_bool (dw_or (dt_not (dt_tru (de_isi (by rfl) M.n_isinstance (da_cons (de_var 2 (pv 2)) (da_cons (de_ty (by rfl) M.n_tuple) da_nil))))) (dw_or (dt_ne hr.units (de_len (by rfl) M.n_len (da_cons (de_var 2 (pv 2)) da_nil)) de_int) (dw_or1 (dt_not (dt_tru (de_call [false, false, false] (ok_is_from M) (hr.mono (by decide)) (by rfl) M.g_is_from M.F_is_from.kp M.b_is_from (takes_of rfl rfl rfl rfl) (da_cons (de_ix (de_var 2 (pv 2)) de_int) (da_cons de_int (da_cons (de_sub (de_len (by rfl) M.n_len (da_cons (de_ix (de_var 0 (pv 0)) de_int) da_nil)) de_int) da_nil))) (len_cons (len_cons (len_cons len_nil)))))))))) (dss_one (ds_ret de_bl)) dss_nil)
  (dss_one (ds_if (dt_bool (dw_or (dt_not (dt_tru (de_call [false, false, false] (ok_is_from M) (hr.mono (by decide)) (by rfl) M.g_is_from M.F_is_from.kp M.b_is_from (takes_of rfl rfl rfl rfl) (da_cons (de_ix (de_var 2 (pv 2)) de_int) (da_cons (de_add (de_ix (de_var 2 (pv 2)) de_int) de_int) (da_cons (de_sub (de_len (by rfl) M.n_len (da_cons (de_ix (de_var 0 (pv 0)) de_int) da_nil)) de_int) da_nil))) (len_cons (len_cons (len_cons len_nil)))))) (dw_or1 (dt_not (dt_tru (de_call [false, false, false] (ok_is_from M) (hr.mono (by decide)) (by rfl) M.g_is_from M.F_is_from.kp M.b_is_from (takes_of rfl rfl rfl rfl) (da_cons (de_ix (de_var 2 (pv 2)) de_int) (da_cons (de_neg (de_len (by rfl) M.n_len (da_cons (de_ix (de_var 0 (pv 0)) de_int) da_nil))) (da_cons (de_len (by rfl) M.n_len (da_cons (de_ix (de_var 0 (pv 0)) de_int) da_nil)) da_nil))) (len_cons (len_cons (len_cons len_nil))))))))) (dss_one (ds_ret de_bl)) dss_nil))))
  (dss_one (ds_ret (de_all rfl (by rfl) M.n_all (da_cons (de_lc (own := [("one", 3), ("other", 4)]) rfl sc.nd (di_zip2 (by rfl) M.n_zip (da_cons (de_var 1 (pv 1)) (da_cons (de_slice (de_var 1 (pv 1)) (do_some de_int) do_none) da_nil))) (blkOk_by (N := N_good_wishes) (sc := defScope s_good_wishes) (by decide +kernel)) (fun _ _ _ _ _ => (dg_tup (n := 2) rfl (dgs_cons (dg_name (i := 3) sc.nd) (dgs_cons (dg_name (i := 4) sc.nd) dgs_nil)))) (fun _ _ _ _ _ => dts_nil) (fun _ _ _ _ _ => (de_ltD hr.units (de_slice (de_var 3 (pv 3)) do_none (do_some de_int)) (de_slice (de_var 4 (pv 4)) do_none (do_some de_int))))) da_nil))))))
def φ_need_wishes : En → O R := fnD [0, 1] 0 ((dSeq (dIf (dNot (dTru (dCall φ_is_group [false] (dCons (dVar 0) dNil)))) (fun _ => .bad) dSkip)
  (dIf (dNot (dTru (dCall φ_good_wishes [false, false] (dCons (dVar 0) (dCons (dVar 1) dNil))))) (fun _ => .bad) dSkip)))
theorem sc_need_wishes : FnScope N_need_wishes ["group", "wishes"] (defScope s_need_wishes) := ⟨rfl, rfl, rfl, by decide +kernel, rfl, by decide +kernel, by decide +kernel⟩
theorem ok_need_wishes (M : Md K mg) : FnOk P w K mg base (L2.CX P w) 4 M.f_need_wishes M.d_need_wishes ["group", "wishes"] (spD K T 2 φ_need_wishes) := by
  have sc := sc_need_wishes
  exact fn_ok (k := 3) (Pr := [0, 1]) 2 0 M.F_need_wishes sc rfl rfl fun cdv A outer s H E hr =>
  (dss_cons (ds_if (dt_not (dt_tru (de_call [false] (ok_is_group M) (hr.mono (by decide)) (by rfl) M.g_is_group M.F_is_group.kp M.b_is_group (takes_of rfl rfl rfl rfl) (da_cons (de_var 0 (pv 0)) da_nil) (len_cons len_nil)))) (dss_one ds_bad) dss_nil)
  (dss_one (ds_if (dt_not (dt_tru (de_call [false, false] (ok_good_wishes M) (hr.mono (by decide)) (by rfl) M.g_good_wishes M.F_good_wishes.kp M.b_good_wishes (takes_of rfl rfl rfl rfl) (da_cons (de_var 0 (pv 0)) (da_cons (de_var 1 (pv 1)) da_nil)) (len_cons (len_cons len_nil))))) (dss_one ds_bad) dss_nil)))
def φ_shorter : En → O R := fnD [0, 1] 0 ((dSeq (dIf (dOr (dTst (dIsN false (dVar 0))) (dAnd (dTst (dIsN true (dVar 1))) (dTst (dOp2 gLt (dVar 1) (dVar 0))))) (dRet (dVar 1)) dSkip)
  (dRet (dVar 0))))
theorem sc_shorter : FnScope N_shorter ["one", "other"] (defScope s_shorter) := ⟨rfl, rfl, rfl, by decide +kernel, rfl, by decide +kernel, by decide +kernel⟩
theorem ok_shorter (M : Md K mg) : FnOk P w K mg base (L2.CX P w) 1 M.f_shorter M.d_shorter ["one", "other"] (spD K T 2 φ_shorter) := by
  have sc := sc_shorter
  exact fn_ok (k := 0) (Pr := [0, 1]) 2 0 M.F_shorter sc rfl rfl fun cdv A outer s H E hr =>
  (dss_cons (ds_if (dt_bool (dw_or (dt_isN (de_var 0 (pv 0))) (dw_or1 (dt_bool (dw_and (dt_notN (de_var 1 (pv 1))) (dw_and1 (dt_lt (de_var 1 (pv 1)) (de_var 0 (pv 0))))))))) (dss_one (ds_ret (de_var 1 (pv 1)))) dss_nil)
  (dss_one (ds_ret (de_var 0 (pv 0)))))
def g_tight_1 : D → En → Option En := (gN 4)
def b_tight_1 : En → O Fl := (dPutT 2 (dCons (dVar 3) (dCons (dVar 4) dNil)) (dIfE (dTst (dOp2 gEq (dVar 3) (dVar 4))) (dC (.int 0)) (dC .non)))
def g_tight_2 : D → En → Option En := (gN 3)
def b_tight_2 : En → O Fl := (dFor (dRng1 (dCons (dVar 0) dNil)) g_tight_1 b_tight_1)
def g_tight_3 : D → En → Option En := (gTupD 4 (gCons (gN 3) (gCons (gN 4) (gCons (gN 5) (gCons (gN 6) gNil)))))
def b_tight_3 : En → O Fl := (dPutT 2 (dCons (dVar 3) (dCons (dVar 4) dNil)) (dCall φ_shorter [false, false] (dCons (dGetT (dVar 2) (dCons (dVar 3) (dCons (dVar 4) dNil))) (dCons (dVar 5) dNil))))
def g_tight_4 : D → En → Option En := (gN 4)
def b_tight_4 : En → O Fl := (dIf (dAnd (dTst (dIsN true (dGetT (dVar 2) (dCons (dVar 3) (dCons (dVar 7) dNil))))) (dTst (dIsN true (dGetT (dVar 2) (dCons (dVar 7) (dCons (dVar 4) dNil)))))) (dSeq (dSet 8 (dOpA gAdd (dGetT (dVar 2) (dCons (dVar 3) (dCons (dVar 7) dNil))) (dGetT (dVar 2) (dCons (dVar 7) (dCons (dVar 4) dNil)))))
  (dPutT 2 (dCons (dVar 3) (dCons (dVar 4) dNil)) (dCall φ_shorter [false, false] (dCons (dGetT (dVar 2) (dCons (dVar 3) (dCons (dVar 4) dNil))) (dCons (dVar 8) dNil))))) dSkip)
def g_tight_5 : D → En → Option En := (gN 3)
def b_tight_5 : En → O Fl := (dFor (dRng1 (dCons (dVar 0) dNil)) g_tight_4 b_tight_4)
def g_tight_6 : D → En → Option En := (gN 7)
def b_tight_6 : En → O Fl := (dFor (dRng1 (dCons (dVar 0) dNil)) g_tight_5 b_tight_5)
def φ_tight : En → O R := fnD [0, 1] 7 ((dSeq (dSet 2 (fun ε => .ok (.new (.dT [] [])) ε))
  (dSeq (dFor (dRng1 (dCons (dVar 0) dNil)) g_tight_2 b_tight_2)
  (dSeq (dFor (dSeqI (dVar 1)) g_tight_3 b_tight_3)
  (dSeq (dFor (dRng1 (dCons (dVar 0) dNil)) g_tight_6 b_tight_6)
  (dRet (dVar 2)))))))
theorem sc_tight : FnScope N_tight ["count", "rows"] (defScope s_tight) := ⟨rfl, rfl, rfl, by decide +kernel, rfl, by decide +kernel, by decide +kernel⟩
theorem ok_tight (M : Md K mg) : FnOk P w K mg base (L2.CX P w) 2 M.f_tight M.d_tight ["count", "rows"] (spD K T 2 φ_tight) := by
  have sc := sc_tight
  exact fn_ok (k := 1) (Pr := [0, 1]) 2 7 M.F_tight sc rfl rfl fun cdv A outer s H E hr =>
  (dss_cons (ds_set (i := 2) sc.nd de_dnewT)
  (dss_cons (ds_for (passes_of rfl) rfl (di_range1 (by rfl) M.n_range (da_cons (de_var 0 (pv 0)) da_nil)) (dg_name (i := 3) sc.nd) (dss_one (ds_for (passes_of rfl) rfl (di_range1 (by rfl) M.n_range (da_cons (de_var 0 (pv 0)) da_nil)) (dg_name (i := 4) sc.nd) (dss_one (ds_putT 2 hr.units (pv 2) (da_cons (de_var 3 (pv 3)) (da_cons (de_var 4 (pv 4)) da_nil)) (de_ifE (dt_eq hr.units (de_var 3 (pv 3)) (de_var 4 (pv 4))) de_int de_non))))))
  (dss_cons (ds_for (passes_of rfl) rfl (di_seq (de_var 1 (pv 1))) (dg_tup (n := 4) rfl (dgs_cons (dg_name (i := 3) sc.nd) (dgs_cons (dg_name (i := 4) sc.nd) (dgs_cons (dg_name (i := 5) sc.nd) (dgs_cons (dg_name (i := 6) sc.nd) dgs_nil))))) (dss_one (ds_putT 2 hr.units (pv 2) (da_cons (de_var 3 (pv 3)) (da_cons (de_var 4 (pv 4)) da_nil)) (de_call [false, false] (ok_shorter M) (hr.mono (by decide)) (by rfl) M.g_shorter M.F_shorter.kp M.b_shorter (takes_of rfl rfl rfl rfl) (da_cons (de_getT hr.units (de_var 2 (pv 2)) (da_cons (de_var 3 (pv 3)) (da_cons (de_var 4 (pv 4)) da_nil))) (da_cons (de_var 5 (pv 5)) da_nil)) (len_cons (len_cons len_nil))))))
  (dss_cons (ds_for (passes_of rfl) rfl (di_range1 (by rfl) M.n_range (da_cons (de_var 0 (pv 0)) da_nil)) (dg_name (i := 7) sc.nd) (dss_one (ds_for (passes_of rfl) rfl (di_range1 (by rfl) M.n_range (da_cons (de_var 0 (pv 0)) da_nil)) (dg_name (i := 3) sc.nd) (dss_one (ds_for (passes_of rfl) rfl (di_range1 (by rfl) M.n_range (da_cons (de_var 0 (pv 0)) da_nil)) (dg_name (i := 4) sc.nd) (dss_one (ds_if (dt_bool (dw_and (dt_notN (de_getT hr.units (de_var 2 (pv 2)) (da_cons (de_var 3 (pv 3)) (da_cons (de_var 7 (pv 7)) da_nil)))) (dw_and1 (dt_notN (de_getT hr.units (de_var 2 (pv 2)) (da_cons (de_var 7 (pv 7)) (da_cons (de_var 4 (pv 4)) da_nil))))))) (dss_cons (ds_set (i := 8) sc.nd (de_add (de_getT hr.units (de_var 2 (pv 2)) (da_cons (de_var 3 (pv 3)) (da_cons (de_var 7 (pv 7)) da_nil))) (de_getT hr.units (de_var 2 (pv 2)) (da_cons (de_var 7 (pv 7)) (da_cons (de_var 4 (pv 4)) da_nil)))))
  (dss_one (ds_putT 2 hr.units (pv 2) (da_cons (de_var 3 (pv 3)) (da_cons (de_var 4 (pv 4)) da_nil)) (de_call [false, false] (ok_shorter M) (hr.mono (by decide)) (by rfl) M.g_shorter M.F_shorter.kp M.b_shorter (takes_of rfl rfl rfl rfl) (da_cons (de_getT hr.units (de_var 2 (pv 2)) (da_cons (de_var 3 (pv 3)) (da_cons (de_var 4 (pv 4)) da_nil))) (da_cons (de_var 8 (pv 8)) da_nil)) (len_cons (len_cons len_nil)))))) dss_nil)))))))
  (dss_one (ds_ret (de_var 2 (pv 2))))))))
def g_bounds_of_1 : D → En → Option En := (gTupD 2 (gCons (gN 3) (gCons (gTupD 3 (gCons (gN 4) (gCons (gN 5) (gCons (gN 6) gNil)))) gNil)))
def b_bounds_of_1 : En → O Fl := (dSeq (dAsg (gTupD 2 (gCons (gN 7) (gCons (gN 8) gNil))) (dCall φ_range_for [false, false] (dCons (dCall φ_stairs_of [false] (dCons (dCall φ_match_of [false, false, false] (dCons (dVar 0) (dCons (dVar 4) (dCons (dVar 5) dNil)))) dNil)) (dCons (dVar 6) dNil))))
  (dSeq (dIf (dTst (dIsN true (dVar 8))) (dDrop (dM 2 isL mApp (dCons (dTup (dCons (dVar 4) (dCons (dVar 5) (dCons (dVar 8) (dCons (dVar 3) dNil))))) dNil))) dSkip)
  (dIf (dTst (dIsN true (dVar 7))) (dDrop (dM 2 isL mApp (dCons (dTup (dCons (dVar 5) (dCons (dVar 4) (dCons (dUn gNeg (dVar 7)) (dCons (dVar 3) dNil))))) dNil))) dSkip)))
def φ_bounds_of : En → O R := fnD [0, 1] 7 ((dSeq (dSet 2 (dLst dNil))
  (dSeq (dFor (dEnum (dCons (dVar 1) dNil)) g_bounds_of_1 b_bounds_of_1)
  (dRet (dVar 2)))))
theorem sc_bounds_of : FnScope N_bounds_of ["group", "wishes"] (defScope s_bounds_of) := ⟨rfl, rfl, rfl, by decide +kernel, rfl, by decide +kernel, by decide +kernel⟩
theorem ok_bounds_of (M : Md K mg) : FnOk P w K mg base (L2.CX P w) 3 M.f_bounds_of M.d_bounds_of ["group", "wishes"] (spD K T 2 φ_bounds_of) := by
  have sc := sc_bounds_of
  exact fn_ok (k := 2) (Pr := [0, 1]) 2 7 M.F_bounds_of sc rfl rfl fun cdv A outer s H E hr =>
  (dss_cons (ds_set (i := 2) sc.nd (de_lst da_nil))
  (dss_cons (ds_for (passes_of rfl) rfl (di_enum (by rfl) M.n_enumerate (da_cons (de_var 1 (pv 1)) da_nil)) (dg_tup (n := 2) rfl (dgs_cons (dg_name (i := 3) sc.nd) (dgs_cons (dg_tup (n := 3) rfl (dgs_cons (dg_name (i := 4) sc.nd) (dgs_cons (dg_name (i := 5) sc.nd) (dgs_cons (dg_name (i := 6) sc.nd) dgs_nil)))) dgs_nil))) (dss_cons (ds_asg (de_call [false, false] (ok_range_for M) (hr.mono (by decide)) (by rfl) M.g_range_for M.F_range_for.kp M.b_range_for (takes_of rfl rfl rfl rfl) (da_cons (de_call [false] (ok_stairs_of M) (hr.mono (by decide)) (by rfl) M.g_stairs_of M.F_stairs_of.kp M.b_stairs_of (takes_of rfl rfl rfl rfl) (da_cons (de_call [false, false, false] (ok_match_of M) (hr.mono (by decide)) (by rfl) M.g_match_of M.F_match_of.kp M.b_match_of (takes_of rfl rfl rfl rfl) (da_cons (de_var 0 (pv 0)) (da_cons (de_var 4 (pv 4)) (da_cons (de_var 5 (pv 5)) da_nil))) (len_cons (len_cons (len_cons len_nil)))) da_nil) (len_cons len_nil)) (da_cons (de_var 6 (pv 6)) da_nil)) (len_cons (len_cons len_nil))) (dg_tup (n := 2) rfl (dgs_cons (dg_name (i := 7) sc.nd) (dgs_cons (dg_name (i := 8) sc.nd) dgs_nil))))
  (dss_cons (ds_if (dt_notN (de_var 8 (pv 8))) (dss_one (ds_expr (de_m (i := 2) (kd := isL) PySem.F.plainAttrs_list PySem.F.slot_list_append PySem.F.type_list_append mt_append mt_app tyL (pv 2) (da_cons (de_tup (da_cons (de_var 4 (pv 4)) (da_cons (de_var 5 (pv 5)) (da_cons (de_var 8 (pv 8)) (da_cons (de_var 3 (pv 3)) da_nil))))) da_nil)))) dss_nil)
  (dss_one (ds_if (dt_notN (de_var 7 (pv 7))) (dss_one (ds_expr (de_m (i := 2) (kd := isL) PySem.F.plainAttrs_list PySem.F.slot_list_append PySem.F.type_list_append mt_append mt_app tyL (pv 2) (da_cons (de_tup (da_cons (de_var 5 (pv 5)) (da_cons (de_var 4 (pv 4)) (da_cons (de_neg (de_var 7 (pv 7))) (da_cons (de_var 3 (pv 3)) da_nil))))) da_nil)))) dss_nil)))))
  (dss_one (ds_ret (de_var 2 (pv 2))))))
def φ_table_of : En → O R := fnD [0, 1] 3 ((dSeq (dSet 2 (dFn gLen (dCons (dOpA gIx (dVar 0) (dC (.int 0))) dNil)))
  (dSeq (dSet 3 (dCall φ_tight [false, false] (dCons (dVar 2) (dCons (dCall φ_bounds_of [false, false] (dCons (dVar 0) (dCons (dVar 1) dNil))) dNil))))
  (dRet (dIfE (dTru (dFn gAll (dCons (dLC (dRng1 (dCons (dVar 2) dNil)) (gN 4) dYes (dOp2 gGe (dGetT (dVar 3) (dCons (dVar 4) (dCons (dVar 4) dNil))) (dC (.int 0))) [4]) dNil))) (dVar 3) (dC .non))))))
theorem sc_table_of : FnScope N_table_of ["group", "wishes"] (defScope s_table_of) := ⟨rfl, rfl, rfl, by decide +kernel, rfl, by decide +kernel, by decide +kernel⟩
theorem ok_table_of (M : Md K mg) : FnOk P w K mg base (L2.CX P w) 4 M.f_table_of M.d_table_of ["group", "wishes"] (spD K T 2 φ_table_of) := by
  have sc := sc_table_of
  exact fn_ok (k := 3) (Pr := [0, 1]) 2 3 M.F_table_of sc rfl rfl fun cdv A outer s H E hr =>
  (dss_cons (ds_set (i := 2) sc.nd (de_len (by rfl) M.n_len (da_cons (de_ix (de_var 0 (pv 0)) de_int) da_nil)))
  (dss_cons (ds_set (i := 3) sc.nd (de_call [false, false] (ok_tight M) (hr.mono (by decide)) (by rfl) M.g_tight M.F_tight.kp M.b_tight (takes_of rfl rfl rfl rfl) (da_cons (de_var 2 (pv 2)) (da_cons (de_call [false, false] (ok_bounds_of M) (hr.mono (by decide)) (by rfl) M.g_bounds_of M.F_bounds_of.kp M.b_bounds_of (takes_of rfl rfl rfl rfl) (da_cons (de_var 0 (pv 0)) (da_cons (de_var 1 (pv 1)) da_nil)) (len_cons (len_cons len_nil))) da_nil)) (len_cons (len_cons len_nil))))
  (dss_one (ds_ret (de_ifE (dt_tru (de_all rfl (by rfl) M.n_all (da_cons (de_lc (own := [("one", 4)]) rfl sc.nd (di_range1 (by rfl) M.n_range (da_cons (de_var 2 (pv 2)) da_nil)) (blkOk_by (N := N_table_of) (sc := defScope s_table_of) (by decide +kernel)) (fun _ _ _ _ _ => (dg_name (i := 4) sc.nd)) (fun _ _ _ _ _ => dts_nil) (fun _ _ _ _ _ => (de_ge (de_getT hr.units (de_var 3 (pv 3)) (da_cons (de_var 4 (pv 4)) (da_cons (de_var 4 (pv 4)) da_nil))) de_int))) da_nil))) (de_var 3 (pv 3)) de_non)))))
def φ_need_table : En → O R := fnD [0, 1] 1 ((dSeq (dDrop (dCall φ_need_wishes [false, false] (dCons (dVar 0) (dCons (dVar 1) dNil))))
  (dSeq (dSet 2 (dCall φ_table_of [false, false] (dCons (dVar 0) (dCons (dVar 1) dNil))))
  (dSeq (dIf (dTst (dIsN false (dVar 2))) (fun _ => .bad) dSkip)
  (dRet (dVar 2))))))
theorem sc_need_table : FnScope N_need_table ["group", "wishes"] (defScope s_need_table) := ⟨rfl, rfl, rfl, by decide +kernel, rfl, by decide +kernel, by decide +kernel⟩
theorem ok_need_table (M : Md K mg) : FnOk P w K mg base (L2.CX P w) 5 M.f_need_table M.d_need_table ["group", "wishes"] (spD K T 2 φ_need_table) := by
  have sc := sc_need_table
  exact fn_ok (k := 4) (Pr := [0, 1]) 2 1 M.F_need_table sc rfl rfl fun cdv A outer s H E hr =>
  (dss_cons (ds_expr (de_call [false, false] (ok_need_wishes M) (hr.mono (by decide)) (by rfl) M.g_need_wishes M.F_need_wishes.kp M.b_need_wishes (takes_of rfl rfl rfl rfl) (da_cons (de_var 0 (pv 0)) (da_cons (de_var 1 (pv 1)) da_nil)) (len_cons (len_cons len_nil))))
  (dss_cons (ds_set (i := 2) sc.nd (de_call [false, false] (ok_table_of M) (hr.mono (by decide)) (by rfl) M.g_table_of M.F_table_of.kp M.b_table_of (takes_of rfl rfl rfl rfl) (da_cons (de_var 0 (pv 0)) (da_cons (de_var 1 (pv 1)) da_nil)) (len_cons (len_cons len_nil))))
  (dss_cons (ds_if (dt_isN (de_var 2 (pv 2))) (dss_one ds_bad) dss_nil)
  (dss_one (ds_ret (de_var 2 (pv 2)))))))
def g_least_handicaps_1 : D → En → Option En := (gN 4)
def b_least_handicaps_1 : En → O Fl := (dSeq (dSet 5 (dLC (dRng1 (dCons (dFn gLen (dCons (dOpA gIx (dVar 0) (dC (.int 0))) dNil)) dNil)) (gN 6) dYes (dGetT (dVar 2) (dCons (dVar 6) (dCons (dVar 4) dNil))) [6]))
  (dDrop (dM 3 isL mApp (dCons (dFn gMax1 (dCons (dOpA gAdd (dLst (dCons (dC (.int 0)) dNil)) (dLC (dSeqI (dVar 5)) (gN 7) (dTst (dIsN true (dVar 7))) (dUn gNeg (dVar 7)) [7])) dNil)) dNil))))
def φ_least_handicaps : En → O R := fnD [0, 1] 6 ((dSeq (dPar 2 3 (dCons (dCall φ_need_table [false, false] (dCons (dVar 0) (dCons (dVar 1) dNil))) (dCons (dLst dNil) dNil)))
  (dSeq (dFor (dRng1 (dCons (dFn gLen (dCons (dOpA gIx (dVar 0) (dC (.int 0))) dNil)) dNil)) g_least_handicaps_1 b_least_handicaps_1)
  (dRet (dVar 3)))))
theorem sc_least_handicaps : FnScope N_least_handicaps ["group", "wishes"] (defScope s_least_handicaps) := ⟨rfl, rfl, rfl, by decide +kernel, rfl, by decide +kernel, by decide +kernel⟩
theorem ok_least_handicaps (M : Md K mg) : FnOk P w K mg base (L2.CX P w) 6 M.f_least_handicaps M.d_least_handicaps ["group", "wishes"] (spD K T 2 φ_least_handicaps) := by
  have sc := sc_least_handicaps
  exact fn_ok (k := 5) (Pr := [0, 1]) 2 6 M.F_least_handicaps sc rfl rfl fun cdv A outer s H E hr =>
  (dss_cons (ds_parC (i := 2) (j := 3) rfl sc.nd (da_cons (de_call [false, false] (ok_need_table M) (hr.mono (by decide)) (by rfl) M.g_need_table M.F_need_table.kp M.b_need_table (takes_of rfl rfl rfl rfl) (da_cons (de_var 0 (pv 0)) (da_cons (de_var 1 (pv 1)) da_nil)) (len_cons (len_cons len_nil))) (da_cons (de_lst da_nil) da_nil)))
  (dss_cons (ds_for (passes_of rfl) rfl (di_range1 (by rfl) M.n_range (da_cons (de_len (by rfl) M.n_len (da_cons (de_ix (de_var 0 (pv 0)) de_int) da_nil)) da_nil)) (dg_name (i := 4) sc.nd) (dss_cons (ds_setLc (i := 5) (own := [("other", 6)]) rfl sc.nd (sw_true rfl rfl rfl (by decide +kernel)) (di_range1 (by rfl) M.n_range (da_cons (de_len (by rfl) M.n_len (da_cons (de_ix (de_var 0 (pv 0)) de_int) da_nil)) da_nil)) (blkOk_by (N := N_least_handicaps) (sc := defScope s_least_handicaps) (by decide +kernel)) (fun _ _ _ _ _ => (dg_name (i := 6) sc.nd)) (fun _ _ _ _ _ => dts_nil) (fun _ _ _ _ _ => (de_getT hr.units (de_var 2 (pv 2)) (da_cons (de_var 6 (pv 6)) (da_cons (de_var 4 (pv 4)) da_nil)))))
  (dss_one (ds_expr (de_m (i := 3) (kd := isL) PySem.F.plainAttrs_list PySem.F.slot_list_append PySem.F.type_list_append mt_append mt_app tyL (pv 3) (da_cons (de_max1 rfl (by rfl) M.n_max (da_cons (de_add (de_lst (da_cons de_int da_nil)) (de_lc (own := [("most", 7)]) rfl sc.nd (di_seq (de_var 5 (pv 5))) (blkOk_by (N := N_least_handicaps) (sc := defScope s_least_handicaps) (by decide +kernel)) (fun _ _ _ _ _ => (dg_name (i := 7) sc.nd)) (fun _ _ _ _ _ => (dts_one (dt_notN (de_var 7 (pv 7))))) (fun _ _ _ _ _ => (de_neg (de_var 7 (pv 7)))))) da_nil)) da_nil))))))
  (dss_one (ds_ret (de_var 3 (pv 3))))))
def φ_can_come : En → O R := fnD [0, 1] 0 ((dSeq (dDrop (dCall φ_need_wishes [false, false] (dCons (dVar 0) (dCons (dVar 1) dNil))))
  (dRet (dIsN true (dCall φ_table_of [false, false] (dCons (dVar 0) (dCons (dVar 1) dNil)))))))
theorem sc_can_come : FnScope N_can_come ["group", "wishes"] (defScope s_can_come) := ⟨rfl, rfl, rfl, by decide +kernel, rfl, by decide +kernel, by decide +kernel⟩
theorem ok_can_come (M : Md K mg) : FnOk P w K mg base (L2.CX P w) 5 M.f_can_come M.d_can_come ["group", "wishes"] (spD K T 2 φ_can_come) := by
  have sc := sc_can_come
  exact fn_ok (k := 4) (Pr := [0, 1]) 2 0 M.F_can_come sc rfl rfl fun cdv A outer s H E hr =>
  (dss_cons (ds_expr (de_call [false, false] (ok_need_wishes M) (hr.mono (by decide)) (by rfl) M.g_need_wishes M.F_need_wishes.kp M.b_need_wishes (takes_of rfl rfl rfl rfl) (da_cons (de_var 0 (pv 0)) (da_cons (de_var 1 (pv 1)) da_nil)) (len_cons (len_cons len_nil))))
  (dss_one (ds_ret (de_notN (de_call [false, false] (ok_table_of M) (hr.mono (by decide)) (by rfl) M.g_table_of M.F_table_of.kp M.b_table_of (takes_of rfl rfl rfl rfl) (da_cons (de_var 0 (pv 0)) (da_cons (de_var 1 (pv 1)) da_nil)) (len_cons (len_cons len_nil)))))))
def φ_need_player : En → O R := fnD [0, 1] 0 ((dIf (dNot (dTru (dCall φ_is_from [false, false, false] (dCons (dVar 1) (dCons (dC (.int 0)) (dCons (dOp2 gSub (dFn gLen (dCons (dOpA gIx (dVar 0) (dC (.int 0))) dNil)) (dC (.int 1))) dNil)))))) (fun _ => .bad) dSkip))
theorem sc_need_player : FnScope N_need_player ["group", "player"] (defScope s_need_player) := ⟨rfl, rfl, rfl, by decide +kernel, rfl, by decide +kernel, by decide +kernel⟩
theorem ok_need_player (M : Md K mg) : FnOk P w K mg base (L2.CX P w) 2 M.f_need_player M.d_need_player ["group", "player"] (spD K T 2 φ_need_player) := by
  have sc := sc_need_player
  exact fn_ok (k := 1) (Pr := [0, 1]) 2 0 M.F_need_player sc rfl rfl fun cdv A outer s H E hr =>
  (dss_one (ds_if (dt_not (dt_tru (de_call [false, false, false] (ok_is_from M) (hr.mono (by decide)) (by rfl) M.g_is_from M.F_is_from.kp M.b_is_from (takes_of rfl rfl rfl rfl) (da_cons (de_var 1 (pv 1)) (da_cons de_int (da_cons (de_sub (de_len (by rfl) M.n_len (da_cons (de_ix (de_var 0 (pv 0)) de_int) da_nil)) de_int) da_nil))) (len_cons (len_cons (len_cons len_nil)))))) (dss_one ds_bad) dss_nil))
def φ_difference_range : En → O R := fnD [0, 1, 2, 3] 2 ((dSeq (dSet 4 (dCall φ_need_table [false, false] (dCons (dVar 0) (dCons (dVar 1) dNil))))
  (dSeq (dDrop (dCall φ_need_player [false, false] (dCons (dVar 0) (dCons (dVar 2) dNil))))
  (dSeq (dDrop (dCall φ_need_player [false, false] (dCons (dVar 0) (dCons (dVar 3) dNil))))
  (dSeq (dSet 5 (dGetT (dVar 4) (dCons (dVar 3) (dCons (dVar 2) dNil))))
  (dRet (dTup (dCons (dIfE (dTst (dIsN false (dVar 5))) (dC .non) (dUn gNeg (dVar 5))) (dCons (dGetT (dVar 4) (dCons (dVar 2) (dCons (dVar 3) dNil))) dNil)))))))))
theorem sc_difference_range : FnScope N_difference_range ["group", "wishes", "one", "other"] (defScope s_difference_range) := ⟨rfl, rfl, rfl, by decide +kernel, rfl, by decide +kernel, by decide +kernel⟩
theorem ok_difference_range (M : Md K mg) : FnOk P w K mg base (L2.CX P w) 6 M.f_difference_range M.d_difference_range ["group", "wishes", "one", "other"] (spD K T 4 φ_difference_range) := by
  have sc := sc_difference_range
  exact fn_ok (k := 5) (Pr := [0, 1, 2, 3]) 4 2 M.F_difference_range sc rfl rfl fun cdv A outer s H E hr =>
  (dss_cons (ds_set (i := 4) sc.nd (de_call [false, false] (ok_need_table M) (hr.mono (by decide)) (by rfl) M.g_need_table M.F_need_table.kp M.b_need_table (takes_of rfl rfl rfl rfl) (da_cons (de_var 0 (pv 0)) (da_cons (de_var 1 (pv 1)) da_nil)) (len_cons (len_cons len_nil))))
  (dss_cons (ds_expr (de_call [false, false] (ok_need_player M) (hr.mono (by decide)) (by rfl) M.g_need_player M.F_need_player.kp M.b_need_player (takes_of rfl rfl rfl rfl) (da_cons (de_var 0 (pv 0)) (da_cons (de_var 2 (pv 2)) da_nil)) (len_cons (len_cons len_nil))))
  (dss_cons (ds_expr (de_call [false, false] (ok_need_player M) (hr.mono (by decide)) (by rfl) M.g_need_player M.F_need_player.kp M.b_need_player (takes_of rfl rfl rfl rfl) (da_cons (de_var 0 (pv 0)) (da_cons (de_var 3 (pv 3)) da_nil)) (len_cons (len_cons len_nil))))
  (dss_cons (ds_set (i := 5) sc.nd (de_getT hr.units (de_var 4 (pv 4)) (da_cons (de_var 3 (pv 3)) (da_cons (de_var 2 (pv 2)) da_nil))))
  (dss_one (ds_ret (de_tup (da_cons (de_ifE (dt_isN (de_var 5 (pv 5))) de_non (de_neg (de_var 5 (pv 5)))) (da_cons (de_getT hr.units (de_var 4 (pv 4)) (da_cons (de_var 2 (pv 2)) (da_cons (de_var 3 (pv 3)) da_nil))) da_nil)))))))))
def g_shortest_ring_1 : D → En → Option En := (gN 3)
def b_shortest_ring_1 : En → O Fl := (dPutT 2 (dCons (dVar 3) (dCons (dVar 3) dNil)) (dTup (dCons (dC (.int 0)) (dCons (dTup dNil) dNil))))
def g_shortest_ring_2 : D → En → Option En := (gTupD 4 (gCons (gN 7) (gCons (gN 8) (gCons (gN 9) (gCons (gN 10) gNil)))))
def b_shortest_ring_2 : En → O Fl := (dIf (dTst (dOp2 gEq (dVar 7) (dVar 6))) (dSeq (dAsg (gTupD 2 (gCons (gN 11) (gCons (gN 12) gNil))) (dGetT (dVar 2) (dCons (dVar 3) (dCons (dVar 6) dNil))))
  (dSeq (dSet 13 (dTup (dCons (dOpA gAdd (dVar 11) (dVar 9)) (dCons (dOpA gAdd (dVar 12) (dTup (dCons (dVar 10) dNil))) dNil))))
  (dIf (dOr (dTst (dInT true (dCons (dVar 3) (dCons (dVar 8) dNil)) (dVar 5))) (dTst (dOp2 gLtD (dVar 13) (dGetT (dVar 5) (dCons (dVar 3) (dCons (dVar 8) dNil)))))) (dPutT 5 (dCons (dVar 3) (dCons (dVar 8) dNil)) (dVar 13)) dSkip))) dSkip)
def g_shortest_ring_3 : List D → En → Option En := (gCons (gN 3) (gCons (gN 6) gNil))
def b_shortest_ring_3 : En → O Fl := (dFor (dSeqI (dVar 1)) g_shortest_ring_2 b_shortest_ring_2)
def g_shortest_ring_4 : D → En → Option En := (gN 3)
def b_shortest_ring_4 : En → O Fl := (dIf (dAnd (dTst (dInT false (dCons (dVar 3) (dCons (dVar 3) dNil)) (dVar 2))) (dTst (dOp2 gLt (dOpA gIx (dGetT (dVar 2) (dCons (dVar 3) (dCons (dVar 3) dNil))) (dC (.int 0))) (dC (.int 0))))) (dRet (dOpA gIx (dGetT (dVar 2) (dCons (dVar 3) (dCons (dVar 3) dNil))) (dC (.int 1)))) dSkip)
def g_shortest_ring_5 : D → En → Option En := (gN 4)
def b_shortest_ring_5 : En → O Fl := (dSeq (dSet 5 (fun ε => .ok (.new (.dT [] [])) ε))
  (dSeq (dForST (dCons (dVar 2) dNil) g_shortest_ring_3 b_shortest_ring_3)
  (dSeq (dSet 2 (dVar 5))
  (dFor (dRng1 (dCons (dVar 0) dNil)) g_shortest_ring_4 b_shortest_ring_4))))
def φ_shortest_ring : En → O R := fnD [0, 1] 12 ((dSeq (dSet 2 (fun ε => .ok (.new (.dT [] [])) ε))
  (dSeq (dFor (dRng1 (dCons (dVar 0) dNil)) g_shortest_ring_1 b_shortest_ring_1)
  (dSeq (dFor (dRng1 (dCons (dVar 0) dNil)) g_shortest_ring_5 b_shortest_ring_5)
  (dRet (dC .non))))))
theorem sc_shortest_ring : FnScope N_shortest_ring ["count", "rows"] (defScope s_shortest_ring) := ⟨rfl, rfl, rfl, by decide +kernel, rfl, by decide +kernel, by decide +kernel⟩
theorem ok_shortest_ring (M : Md K mg) : FnOk P w K mg base (L2.CX P w) 1 M.f_shortest_ring M.d_shortest_ring ["count", "rows"] (spD K T 2 φ_shortest_ring) := by
  have sc := sc_shortest_ring
  exact fn_ok (k := 0) (Pr := [0, 1]) 2 12 M.F_shortest_ring sc rfl rfl fun cdv A outer s H E hr =>
  (dss_cons (ds_set (i := 2) sc.nd de_dnewT)
  (dss_cons (ds_for (passes_of rfl) rfl (di_range1 (by rfl) M.n_range (da_cons (de_var 0 (pv 0)) da_nil)) (dg_name (i := 3) sc.nd) (dss_one (ds_putT 2 hr.units (pv 2) (da_cons (de_var 3 (pv 3)) (da_cons (de_var 3 (pv 3)) da_nil)) (de_tup (da_cons de_int (da_cons (de_tup da_nil) da_nil))))))
  (dss_cons (ds_for (passes_of rfl) rfl (di_range1 (by rfl) M.n_range (da_cons (de_var 0 (pv 0)) da_nil)) (dg_name (i := 4) sc.nd) (dss_cons (ds_set (i := 5) sc.nd de_dnewT)
  (dss_cons (ds_forST (passes_of rfl) rfl (by rfl) M.n_sorted (da_cons (de_var 2 (pv 2)) da_nil) (dgs_cons (dg_name (i := 3) sc.nd) (dgs_cons (dg_name (i := 6) sc.nd) dgs_nil)) (dss_one (ds_for (passes_of rfl) rfl (di_seq (de_var 1 (pv 1))) (dg_tup (n := 4) rfl (dgs_cons (dg_name (i := 7) sc.nd) (dgs_cons (dg_name (i := 8) sc.nd) (dgs_cons (dg_name (i := 9) sc.nd) (dgs_cons (dg_name (i := 10) sc.nd) dgs_nil))))) (dss_one (ds_if (dt_eq hr.units (de_var 7 (pv 7)) (de_var 6 (pv 6))) (dss_cons (ds_asg (de_getT hr.units (de_var 2 (pv 2)) (da_cons (de_var 3 (pv 3)) (da_cons (de_var 6 (pv 6)) da_nil))) (dg_tup (n := 2) rfl (dgs_cons (dg_name (i := 11) sc.nd) (dgs_cons (dg_name (i := 12) sc.nd) dgs_nil))))
  (dss_cons (ds_set (i := 13) sc.nd (de_tup (da_cons (de_add (de_var 11 (pv 11)) (de_var 9 (pv 9))) (da_cons (de_add (de_var 12 (pv 12)) (de_tup (da_cons (de_var 10 (pv 10)) da_nil))) da_nil))))
  (dss_one (ds_if (dt_bool (dw_or (dt_ninT hr.units (da_cons (de_var 3 (pv 3)) (da_cons (de_var 8 (pv 8)) da_nil)) (de_var 5 (pv 5))) (dw_or1 (dt_ltD hr.units (de_var 13 (pv 13)) (de_getT hr.units (de_var 5 (pv 5)) (da_cons (de_var 3 (pv 3)) (da_cons (de_var 8 (pv 8)) da_nil))))))) (dss_one (ds_putT 5 hr.units (pv 5) (da_cons (de_var 3 (pv 3)) (da_cons (de_var 8 (pv 8)) da_nil)) (de_var 13 (pv 13)))) dss_nil)))) dss_nil)))))
  (dss_cons (ds_set (i := 2) sc.nd (de_var 5 (pv 5)))
  (dss_one (ds_for (passes_of rfl) rfl (di_range1 (by rfl) M.n_range (da_cons (de_var 0 (pv 0)) da_nil)) (dg_name (i := 3) sc.nd) (dss_one (ds_if (dt_bool (dw_and (dt_inT hr.units (da_cons (de_var 3 (pv 3)) (da_cons (de_var 3 (pv 3)) da_nil)) (de_var 2 (pv 2))) (dw_and1 (dt_lt (de_ix (de_getT hr.units (de_var 2 (pv 2)) (da_cons (de_var 3 (pv 3)) (da_cons (de_var 3 (pv 3)) da_nil))) de_int) de_int)))) (dss_one (ds_ret (de_ix (de_getT hr.units (de_var 2 (pv 2)) (da_cons (de_var 3 (pv 3)) (da_cons (de_var 3 (pv 3)) da_nil))) de_int))) dss_nil))))))))
  (dss_one (ds_ret de_non)))))
def φ_clash : En → O R := fnD [0, 1] 1 ((dSeq (dDrop (dCall φ_need_wishes [false, false] (dCons (dVar 0) (dCons (dVar 1) dNil))))
  (dSeq (dSet 2 (dCall φ_shortest_ring [false, false] (dCons (dFn gLen (dCons (dOpA gIx (dVar 0) (dC (.int 0))) dNil)) (dCons (dCall φ_bounds_of [false, false] (dCons (dVar 0) (dCons (dVar 1) dNil))) dNil))))
  (dRet (dIfE (dTst (dIsN false (dVar 2))) (dC .non) (dFn gTuple (dCons (dFn gSortedTu (dCons (dVar 2) dNil)) dNil)))))))
theorem sc_clash : FnScope N_clash ["group", "wishes"] (defScope s_clash) := ⟨rfl, rfl, rfl, by decide +kernel, rfl, by decide +kernel, by decide +kernel⟩
theorem ok_clash (M : Md K mg) : FnOk P w K mg base (L2.CX P w) 5 M.f_clash M.d_clash ["group", "wishes"] (spD K T 2 φ_clash) := by
  have sc := sc_clash
  exact fn_ok (k := 4) (Pr := [0, 1]) 2 1 M.F_clash sc rfl rfl fun cdv A outer s H E hr =>
  (dss_cons (ds_expr (de_call [false, false] (ok_need_wishes M) (hr.mono (by decide)) (by rfl) M.g_need_wishes M.F_need_wishes.kp M.b_need_wishes (takes_of rfl rfl rfl rfl) (da_cons (de_var 0 (pv 0)) (da_cons (de_var 1 (pv 1)) da_nil)) (len_cons (len_cons len_nil))))
  (dss_cons (ds_set (i := 2) sc.nd (de_call [false, false] (ok_shortest_ring M) (hr.mono (by decide)) (by rfl) M.g_shortest_ring M.F_shortest_ring.kp M.b_shortest_ring (takes_of rfl rfl rfl rfl) (da_cons (de_len (by rfl) M.n_len (da_cons (de_ix (de_var 0 (pv 0)) de_int) da_nil)) (da_cons (de_call [false, false] (ok_bounds_of M) (hr.mono (by decide)) (by rfl) M.g_bounds_of M.F_bounds_of.kp M.b_bounds_of (takes_of rfl rfl rfl rfl) (da_cons (de_var 0 (pv 0)) (da_cons (de_var 1 (pv 1)) da_nil)) (len_cons (len_cons len_nil))) da_nil)) (len_cons (len_cons len_nil))))
  (dss_one (ds_ret (de_ifE (dt_isN (de_var 2 (pv 2))) de_non (de_tuple (by rfl) M.n_tuple (da_cons (de_sortedTu rfl (by rfl) M.n_sorted (da_cons (de_var 2 (pv 2)) da_nil)) da_nil)))))))
def φ__law_three_right : En → O R := fnD [0] 2 ((dSeq (dSet 1 (dTup (dCons (dTup (dCons (dTup (dCons (dVar 0) (dCons (dVar 0) dNil))) (dCons (dTup (dCons (dOpA gAdd (dVar 0) (dC (.int 1))) (dCons (dVar 0) dNil))) (dCons (dTup (dCons (dOpA gAdd (dVar 0) (dC (.int 1))) (dCons (dOpA gAdd (dVar 0) (dC (.int 2))) dNil))) dNil)))) (dCons (dTup (dCons (dC (.int 1)) (dCons (dC (.int 2)) dNil))) dNil))))
  (dSeq (dIf (dTst (dOp2 gNe (dCall φ_results [false, false] (dCons (dVar 1) (dCons (dTup (dCons (dC (.int 0)) (dCons (dC (.int 0)) (dCons (dC (.int 0)) dNil)))) dNil))) (dLst (dCons (dLst (dCons (dC (.int 0)) (dCons (dC (.int 1)) (dCons (dC (.int 2)) dNil)))) (dCons (dLst (dCons (dUn gNeg (dC (.int 1))) (dCons (dC (.int 0)) (dCons (dC (.int 1)) dNil)))) (dCons (dLst (dCons (dUn gNeg (dC (.int 2))) (dCons (dUn gNeg (dC (.int 1))) (dCons (dC (.int 0)) dNil)))) dNil)))))) (dRet (dC (.bl false))) dSkip)
  (dSeq (dSet 2 (dCall φ_all_halved [false] (dCons (dVar 1) dNil)))
  (dSeq (dIf (dOr (dTst (dOp2 (gIsB true) (dCall φ_can_come [false, false] (dCons (dVar 1) (dCons (dVar 2) dNil))) (dC (.bl true)))) (dTst (dOp2 gNe (dCall φ_least_handicaps [false, false] (dCons (dVar 1) (dCons (dVar 2) dNil))) (dLst (dCons (dC (.int 0)) (dCons (dC (.int 1)) (dCons (dC (.int 3)) dNil))))))) (dRet (dC (.bl false))) dSkip)
  (dSeq (dIf (dOr (dTst (dOp2 gNe (dCall φ_difference_range [false, false, false, false] (dCons (dVar 1) (dCons (dVar 2) (dCons (dC (.int 0)) (dCons (dC (.int 2)) dNil))))) (dTup (dCons (dUn gNeg (dC (.int 3))) (dCons (dUn gNeg (dC (.int 3))) dNil))))) (dTst (dOp2 gNe (dCall φ_clash [false, false] (dCons (dVar 1) (dCons (dOpA gAdd (dSl (dVar 2) dON (dOS (dC (.int 2)))) (dTup (dCons (dTup (dCons (dC (.int 1)) (dCons (dC (.int 2)) (dCons (dC (.int 1)) dNil)))) dNil))) dNil))) (dTup (dCons (dC (.int 0)) (dCons (dC (.int 1)) (dCons (dC (.int 2)) dNil))))))) (dRet (dC (.bl false))) dSkip)
  (dSeq (dIf (dTst (dOp2 gNe (dCall φ_least_handicaps [false, false] (dCons (dVar 1) (dCons (dTup (dCons (dTup (dCons (dC (.int 0)) (dCons (dC (.int 2)) (dCons (dUn gNeg (dC (.int 1))) dNil)))) dNil)) dNil))) (dLst (dCons (dC (.int 0)) (dCons (dC (.int 0)) (dCons (dC (.int 4)) dNil)))))) (dRet (dC (.bl false))) dSkip)
  (dRet (dOp2 (gIsB false) (dCall φ_can_come [false, false] (dCons (dVar 1) (dCons (dTup (dCons (dTup (dCons (dC (.int 0)) (dCons (dC (.int 1)) (dCons (dC (.int 2)) dNil)))) (dCons (dTup (dCons (dC (.int 0)) (dCons (dC (.int 2)) (dCons (dUn gNeg (dC (.int 2))) dNil)))) (dCons (dTup (dCons (dC (.int 1)) (dCons (dC (.int 2)) (dCons (dC (.int 1)) dNil)))) dNil)))) dNil))) (dC (.bl false)))))))))))
theorem sc__law_three_right : FnScope N__law_three_right ["_law_t"] (defScope s__law_three_right) := ⟨rfl, rfl, rfl, by decide +kernel, rfl, by decide +kernel, by decide +kernel⟩
theorem ok__law_three_right (M : Md K mg) : FnOk P w K mg base (L2.CX P w) 7 M.f__law_three_right M.d__law_three_right ["_law_t"] (spD K T 1 φ__law_three_right) := by
  have sc := sc__law_three_right
  exact fn_ok (k := 6) (Pr := [0]) 1 2 M.F__law_three_right sc rfl rfl fun cdv A outer s H E hr =>
  (dss_cons (ds_set (i := 1) sc.nd (de_tup (da_cons (de_tup (da_cons (de_tup (da_cons (de_var 0 (pv 0)) (da_cons (de_var 0 (pv 0)) da_nil))) (da_cons (de_tup (da_cons (de_add (de_var 0 (pv 0)) de_int) (da_cons (de_var 0 (pv 0)) da_nil))) (da_cons (de_tup (da_cons (de_add (de_var 0 (pv 0)) de_int) (da_cons (de_add (de_var 0 (pv 0)) de_int) da_nil))) da_nil)))) (da_cons (de_tup (da_cons de_int (da_cons de_int da_nil))) da_nil))))
  (dss_cons (ds_if (dt_ne hr.units (de_call [false, false] (ok_results M) (hr.mono (by decide)) (by rfl) M.g_results M.F_results.kp M.b_results (takes_of rfl rfl rfl rfl) (da_cons (de_var 1 (pv 1)) (da_cons (de_tup (da_cons de_int (da_cons de_int (da_cons de_int da_nil)))) da_nil)) (len_cons (len_cons len_nil))) (de_lst (da_cons (de_lst (da_cons de_int (da_cons de_int (da_cons de_int da_nil)))) (da_cons (de_lst (da_cons (de_neg de_int) (da_cons de_int (da_cons de_int da_nil)))) (da_cons (de_lst (da_cons (de_neg de_int) (da_cons (de_neg de_int) (da_cons de_int da_nil)))) da_nil))))) (dss_one (ds_ret de_bl)) dss_nil)
  (dss_cons (ds_set (i := 2) sc.nd (de_call [false] (ok_all_halved M) (hr.mono (by decide)) (by rfl) M.g_all_halved M.F_all_halved.kp M.b_all_halved (takes_of rfl rfl rfl rfl) (da_cons (de_var 1 (pv 1)) da_nil) (len_cons len_nil)))
  (dss_cons (ds_if (dt_bool (dw_or (dt_notB (de_call [false, false] (ok_can_come M) (hr.mono (by decide)) (by rfl) M.g_can_come M.F_can_come.kp M.b_can_come (takes_of rfl rfl rfl rfl) (da_cons (de_var 1 (pv 1)) (da_cons (de_var 2 (pv 2)) da_nil)) (len_cons (len_cons len_nil))) de_bl) (dw_or1 (dt_ne hr.units (de_call [false, false] (ok_least_handicaps M) (hr.mono (by decide)) (by rfl) M.g_least_handicaps M.F_least_handicaps.kp M.b_least_handicaps (takes_of rfl rfl rfl rfl) (da_cons (de_var 1 (pv 1)) (da_cons (de_var 2 (pv 2)) da_nil)) (len_cons (len_cons len_nil))) (de_lst (da_cons de_int (da_cons de_int (da_cons de_int da_nil)))))))) (dss_one (ds_ret de_bl)) dss_nil)
  (dss_cons (ds_if (dt_bool (dw_or (dt_ne hr.units (de_call [false, false, false, false] (ok_difference_range M) (hr.mono (by decide)) (by rfl) M.g_difference_range M.F_difference_range.kp M.b_difference_range (takes_of rfl rfl rfl rfl) (da_cons (de_var 1 (pv 1)) (da_cons (de_var 2 (pv 2)) (da_cons de_int (da_cons de_int da_nil)))) (len_cons (len_cons (len_cons (len_cons len_nil))))) (de_tup (da_cons (de_neg de_int) (da_cons (de_neg de_int) da_nil)))) (dw_or1 (dt_ne hr.units (de_call [false, false] (ok_clash M) (hr.mono (by decide)) (by rfl) M.g_clash M.F_clash.kp M.b_clash (takes_of rfl rfl rfl rfl) (da_cons (de_var 1 (pv 1)) (da_cons (de_add (de_slice (de_var 2 (pv 2)) do_none (do_some de_int)) (de_tup (da_cons (de_tup (da_cons de_int (da_cons de_int (da_cons de_int da_nil)))) da_nil))) da_nil)) (len_cons (len_cons len_nil))) (de_tup (da_cons de_int (da_cons de_int (da_cons de_int da_nil)))))))) (dss_one (ds_ret de_bl)) dss_nil)
  (dss_cons (ds_if (dt_ne hr.units (de_call [false, false] (ok_least_handicaps M) (hr.mono (by decide)) (by rfl) M.g_least_handicaps M.F_least_handicaps.kp M.b_least_handicaps (takes_of rfl rfl rfl rfl) (da_cons (de_var 1 (pv 1)) (da_cons (de_tup (da_cons (de_tup (da_cons de_int (da_cons de_int (da_cons (de_neg de_int) da_nil)))) da_nil)) da_nil)) (len_cons (len_cons len_nil))) (de_lst (da_cons de_int (da_cons de_int (da_cons de_int da_nil))))) (dss_one (ds_ret de_bl)) dss_nil)
  (dss_one (ds_ret (de_isB (de_call [false, false] (ok_can_come M) (hr.mono (by decide)) (by rfl) M.g_can_come M.F_can_come.kp M.b_can_come (takes_of rfl rfl rfl rfl) (da_cons (de_var 1 (pv 1)) (da_cons (de_tup (da_cons (de_tup (da_cons de_int (da_cons de_int (da_cons de_int da_nil)))) (da_cons (de_tup (da_cons de_int (da_cons de_int (da_cons (de_neg de_int) da_nil)))) (da_cons (de_tup (da_cons de_int (da_cons de_int (da_cons de_int da_nil)))) da_nil)))) da_nil)) (len_cons (len_cons len_nil))) de_bl)))))))))
def g_law_1 : D → En → Option En := (gN 1)
def b_law_1 : En → O Fl := (dSeq (dSet 2 (dOpA gAdd (dC (.int 2)) (dCall φ__law_pick [true, false] (dCons (dCall φ__law_deck [false, false] (dCons (dVar 1) (dCons (dC (.int 21)) dNil))) (dCons (dC (.int 12)) dNil)))))
  (dIf (dOr (dNot (dTru (dCall φ__law_four_right [false] (dCons (dVar 2) dNil)))) (dNot (dTru (dCall φ__law_three_right [false] (dCons (dVar 2) dNil))))) (dRet (dC (.bl false))) dSkip))
def φ_law : En → O R := fnD [0] 2 ((dSeq (dFor (dSeqI (dSl (dOpA gAdd (dLst (dCons (dC (.int 0)) dNil)) (dVar 0)) dON (dOS (dC (.int 4))))) g_law_1 b_law_1)
  (dRet (dOp2 gEq (dCall φ_ending [false, false] (dCons (dTup (dCons (dOpA gRepT (dTup (dCons (dC (.int 4)) dNil)) (dC (.int 18))) (dCons (dOpA gRepT (dTup (dCons (dC (.int 5)) dNil)) (dC (.int 18))) (dCons (dTRg (dR2 (dC (.int 1)) (dC (.int 19)))) dNil)))) (dCons (dC (.int 0)) dNil))) (dTup (dCons (dC (.int 1)) (dCons (dC (.str "10&8")) dNil)))))))
theorem sc_law : FnScope N_law ["_law_script"] (defScope s_law) := ⟨rfl, rfl, rfl, by decide +kernel, rfl, by decide +kernel, by decide +kernel⟩
theorem ok_law (M : Md K mg) : FnOk P w K mg base (L2.CX P w) 8 M.f_law M.d_law ["_law_script"] (spD K T 1 φ_law) := by
  have sc := sc_law
  exact fn_ok (k := 7) (Pr := [0]) 1 2 M.F_law sc rfl rfl fun cdv A outer s H E hr =>
  (dss_cons (ds_for (passes_of rfl) rfl (di_seq (de_slice (de_add (de_lst (da_cons de_int da_nil)) (de_var 0 (pv 0))) do_none (do_some de_int))) (dg_name (i := 1) sc.nd) (dss_cons (ds_set (i := 2) sc.nd (de_add de_int (de_call [true, false] (ok__law_pick M) (hr.mono (by decide)) (by rfl) M.g__law_pick M.F__law_pick.kp M.b__law_pick (takes_of rfl rfl rfl rfl) (da_cons (de_call [false, false] (ok__law_deck M) (hr.mono (by decide)) (by rfl) M.g__law_deck M.F__law_deck.kp M.b__law_deck (takes_of rfl rfl rfl rfl) (da_cons (de_var 1 (pv 1)) (da_cons de_int da_nil)) (len_cons (len_cons len_nil))) (da_cons de_int da_nil)) (len_cons (len_cons len_nil)))))
  (dss_one (ds_if (dt_bool (dw_or (dt_not (dt_tru (de_call [false] (ok__law_four_right M) (hr.mono (by decide)) (by rfl) M.g__law_four_right M.F__law_four_right.kp M.b__law_four_right (takes_of rfl rfl rfl rfl) (da_cons (de_var 2 (pv 2)) da_nil) (len_cons len_nil)))) (dw_or1 (dt_not (dt_tru (de_call [false] (ok__law_three_right M) (hr.mono (by decide)) (by rfl) M.g__law_three_right M.F__law_three_right.kp M.b__law_three_right (takes_of rfl rfl rfl rfl) (da_cons (de_var 2 (pv 2)) da_nil) (len_cons len_nil))))))) (dss_one (ds_ret de_bl)) dss_nil))))
  (dss_one (ds_ret (de_eq hr.units (de_call [false, false] (ok_ending M) (hr.mono (by decide)) (by rfl) M.g_ending M.F_ending.kp M.b_ending (takes_of rfl rfl rfl rfl) (da_cons (de_tup (da_cons (de_mulT (de_tup (da_cons de_int da_nil)) de_int) (da_cons (de_mulT (de_tup (da_cons de_int da_nil)) de_int) (da_cons (de_tupRg rfl (by rfl) M.n_tuple (dr_2 (by rfl) M.n_range de_int de_int)) da_nil)))) (da_cons de_int da_nil)) (len_cons (len_cons len_nil))) (de_tup (da_cons de_int (da_cons de_str da_nil)))))))
end
end K21

namespace K21
open PySem PySem.Spec PyProof.Rows L2 DL
def sgn (i : Int) : Int := (if i > 0 then 1 else 0) - (if i < 0 then 1 else 0)
def atH (n p s : Int) : Int := if s < 0 then -((-s + n - p).fdiv n) else (s + n - p).fdiv n
def hl (n k : Int) (f s x : List Int) : List Int := (f.zip (s.zip x)).map fun t => sgn (t.2.1 - t.1 + atH n t.2.2 k)
theorem at0 {α : Type} (x : α) (xs : List α) : atI (x :: xs) 0 = some x := by
  unfold atI ixN
  simp
theorem at1 {α : Type} (x y : α) (xs : List α) : atI (x :: y :: xs) 1 = some y := by
  unfold atI ixN
  simp
  rw [if_pos (by omega)]
  rfl
theorem at2 {α : Type} (x y z : α) (xs : List α) : atI (x :: y :: z :: xs) 2 = some z := by
  unfold atI ixN
  simp
  rw [if_pos (by omega)]
  rfl
theorem ix30 : ixN 3 0 = some 0 := by decide
theorem ix32 : ixN 3 2 = some 2 := by decide
/-- a deck that was asked at most m times -/
def Dk (m : Nat) (d : D) : Prop := ∃ a b c : Int, d = .lst [.int a, .int b, .int c] ∧ 0 ≤ b ∧ b < 2147483648 ∧ 0 ≤ c ∧ c ≤ m
theorem fmod_range (a l : Int) (h : 0 < l) : 0 ≤ a.fmod l ∧ a.fmod l < l := ⟨Int.fmod_nonneg_of_pos a h, Int.fmod_lt_of_pos a h⟩
theorem x_pick (m : Nat) (d : D) (l : Int) (h : Dk m d) (hm : m < 1073741824) (hl : 0 < l) (hl2 : l ≤ 1000000) :
    ∃ v d', φ__law_pick [.own d, .fz (.int l)] = .ok (.fz (.int v)) [.own d', .fz (.int l)] ∧ 0 ≤ v ∧ v < l ∧ Dk (m + 1) d' := by
  obtain ⟨a, b, c, rfl, h1, h2, h3, h4⟩ := h
  have hl0 : decide (l ≠ 0) = true := decide_eq_true (by omega)
  have hl3 : decide (l.natAbs < 1073741824) = true := decide_eq_true (by omega)
  by_cases ha : 1 < a
  · refine ⟨a.fmod l, .lst [.int (a.fdiv l), .int b, .int c], ?_, (fmod_range a l hl).1, (fmod_range a l hl).2, _, b, c, rfl, h1, h2, h3, by omega⟩
    unfold φ__law_pick
    simp only [dVar, vSlot, dC, dOp2, vOp2, dOpA, vOpA, vAn, An.r, dTst, DL.vBool, vTru, dTru, truth, dAnd, dOr, dNot, dAndV, dOrV, dNotV, dIfE, dNil, dCons, dTup, vTup, dLst, vLst, dSkip, vSeq, dSeq, dIf, dRet, dDrop, vSto, vSet, dSet, vAsg, dAsg, gN, DL.gNil, DL.gCons, gTupD, dFor, vTurn, dUn, gNeg, dMul, vMul, isNew, gAdd, DL.gSub, gII, tt2, cdiv, gFdiv, cmod, gMod, cpow, gPow, gLt, gLe, gGt, gGe, gEq_ii, gNe_ii, dIsN, DL.isNon, dCh, vCh, vCh2, dON, dOS, dSl, vSl, gSubL, dAug, vAug, isFN, vPar, dPar, vM, dM, isL, mApp, mPopAt, mPop, gIdx, vTIdx, isT, dTIdx, gIx, dFn, vFn, ress, gLen, gIsi5, isTy, kn, gAll, gAny, gInt, gAbs, gMax2, gMin2, gSum, gMax1, gMin1, gSorted, gList, gTuple, dR1, dR2, vR1, vR2, dLRg, dTRg, dLenSet, vLenSet, dSeqI, vSeqI, itemsOf, dRng1, dRng2, vRng1, vRng2, dEnum, dZip2, dZip3, vEnum, vZip2, vZip3, dLC, vLC, dCall, vCall, frzM, cSl, cSls, upR, cRes, atsOf, fnD, ownIn_G, ownG_nil, ownG_fz, ownG_no, ownG_own, wipeE, dStep, lcStep, dYes, vFin, vOut, outR, outE, dLend, vLend, lendE, backE, flatR, lend_fzo, back_fzo, lend_fz, lend_no, lend_own1, lend_own0, back_fz, back_no, back_own1, back_own0, flat_ints, flatO_ints, yPlain, yNil, vYSeq, ySeq, vYield, yYield, yFor, vGen, fzE, gnD, noE, vListG, dListG, gAddI, gMulI, dLit, dFmt, vFmt, dJs, dJoin, gStr, dCallB, vCallB, keepOwn, isOwn, res, frz, frzs, flat, O.bind_ok, O.bind_bad, O.bind_exn, List.nodup_cons, List.nodup_nil, List.not_mem_nil, List.mem_cons, List.mem_singleton, not_false_eq_true, and_true, true_and, List.contains_cons, List.contains_nil, Nat.zero_add, List.getElem?_nil, List.getElem?_cons_zero, List.getElem?_cons_succ, List.set_cons_zero, List.set_cons_succ, Option.map_some, Option.map_none, if_true, if_false, Bool.and_true, Bool.true_and, Bool.and_false, Bool.false_and, Bool.or_true, Bool.true_or, Bool.or_false, Bool.false_or, Bool.not_true, Bool.not_false, List.length_cons, List.length_nil, List.append_nil, List.cons_append, List.nil_append, List.replicate_succ, List.replicate_zero, decide_true, decide_false, ↓reduceIte, Int.cast_ofNat_Int, Int.reduceLE, Int.reduceLT, Int.reduceToNat, Int.reduceAdd, Int.reduceSub, Int.reduceMul, Int.reduceNeg, Int.reduceEq, Int.reduceNe, Int.reduceBEq, Int.reduceBNe, Int.reduceGT, Int.reduceGE, ne_eq, Nat.reduceAdd, Nat.reduceLeDiff, Nat.reduceEqDiff, Nat.reduceSub, Nat.reduceMul, Nat.reduceLT, Nat.reduceBEq, String.reduceEq, reduceCtorEq, beq_self_eq_true, List.map_cons, List.map_nil, List.reverse_nil, at0, at1, at2, ix30, ix32, ha, hl0, hl3]
  · have p1 : decide ((b + 15485867 * (c + 1)).natAbs < 2 ^ 64) = true := decide_eq_true (by omega)
    have n1 := fmod_range ((b + 15485867 * (c + 1)) ^ 5) 2147483647 (by decide)
    have p2 : decide (((((b + 15485867 * (c + 1)) ^ 5).fmod 2147483647) + 7919 * (c + 1)).natAbs < 2 ^ 64) = true := decide_eq_true (by omega)
    have hl4 : ¬ (1000000 < l) := by omega
    refine ⟨((((((b + 15485867 * (c + 1)) ^ 5).fmod 2147483647) + 7919 * (c + 1)) ^ 3).fmod 2147483629).fdiv 32 |>.fmod l, .lst [.int a, .int b, .int (c + 1)], ?_, (fmod_range _ l hl).1, (fmod_range _ l hl).2, a, b, c + 1, rfl, h1, h2, by omega, by omega⟩
    have k32 : decide (Int.natAbs 32 < 1073741824) = true := by decide
    have k1 : mulOk 15485867 (c + 1) = true := by unfold mulOk; simp
    have k2 : mulOk 7919 (c + 1) = true := by unfold mulOk; simp
    unfold φ__law_pick
    simp only [dVar, vSlot, dC, dOp2, vOp2, dOpA, vOpA, vAn, An.r, dTst, DL.vBool, vTru, dTru, truth, dAnd, dOr, dNot, dAndV, dOrV, dNotV, dIfE, dNil, dCons, dTup, vTup, dLst, vLst, dSkip, vSeq, dSeq, dIf, dRet, dDrop, vSto, vSet, dSet, vAsg, dAsg, gN, DL.gNil, DL.gCons, gTupD, dFor, vTurn, dUn, gNeg, dMul, vMul, isNew, gAdd, DL.gSub, gII, tt2, cdiv, gFdiv, cmod, gMod, cpow, gPow, gLt, gLe, gGt, gGe, gEq_ii, gNe_ii, dIsN, DL.isNon, dCh, vCh, vCh2, dON, dOS, dSl, vSl, gSubL, dAug, vAug, isFN, vPar, dPar, vM, dM, isL, mApp, mPopAt, mPop, gIdx, vTIdx, isT, dTIdx, gIx, dFn, vFn, ress, gLen, gIsi5, isTy, kn, gAll, gAny, gInt, gAbs, gMax2, gMin2, gSum, gMax1, gMin1, gSorted, gList, gTuple, dR1, dR2, vR1, vR2, dLRg, dTRg, dLenSet, vLenSet, dSeqI, vSeqI, itemsOf, dRng1, dRng2, vRng1, vRng2, dEnum, dZip2, dZip3, vEnum, vZip2, vZip3, dLC, vLC, dCall, vCall, frzM, cSl, cSls, upR, cRes, atsOf, fnD, ownIn_G, ownG_nil, ownG_fz, ownG_no, ownG_own, wipeE, dStep, lcStep, dYes, vFin, vOut, outR, outE, dLend, vLend, lendE, backE, flatR, lend_fzo, back_fzo, lend_fz, lend_no, lend_own1, lend_own0, back_fz, back_no, back_own1, back_own0, flat_ints, flatO_ints, yPlain, yNil, vYSeq, ySeq, vYield, yYield, yFor, vGen, fzE, gnD, noE, vListG, dListG, gAddI, gMulI, dLit, dFmt, vFmt, dJs, dJoin, gStr, dCallB, vCallB, keepOwn, isOwn, res, frz, frzs, flat, O.bind_ok, O.bind_bad, O.bind_exn, List.nodup_cons, List.nodup_nil, List.not_mem_nil, List.mem_cons, List.mem_singleton, not_false_eq_true, and_true, true_and, List.contains_cons, List.contains_nil, Nat.zero_add, List.getElem?_nil, List.getElem?_cons_zero, List.getElem?_cons_succ, List.set_cons_zero, List.set_cons_succ, Option.map_some, Option.map_none, if_true, if_false, Bool.and_true, Bool.true_and, Bool.and_false, Bool.false_and, Bool.or_true, Bool.true_or, Bool.or_false, Bool.false_or, Bool.not_true, Bool.not_false, List.length_cons, List.length_nil, List.append_nil, List.cons_append, List.nil_append, List.replicate_succ, List.replicate_zero, decide_true, decide_false, ↓reduceIte, Int.cast_ofNat_Int, Int.reduceLE, Int.reduceLT, Int.reduceToNat, Int.reduceAdd, Int.reduceSub, Int.reduceMul, Int.reduceNeg, Int.reduceEq, Int.reduceNe, Int.reduceBEq, Int.reduceBNe, Int.reduceGT, Int.reduceGE, ne_eq, Nat.reduceAdd, Nat.reduceLeDiff, Nat.reduceEqDiff, Nat.reduceSub, Nat.reduceMul, Nat.reduceLT, Nat.reduceBEq, String.reduceEq, reduceCtorEq, beq_self_eq_true, List.map_cons, List.map_nil, List.reverse_nil, at0, at1, at2, ix30, ix32, ha, hl0, hl3, p1, p2, k1, k2, hl4, k32]
theorem x_deck (c t : Int) (ht : 0 ≤ t ∧ t ≤ 1000) : ∃ d, φ__law_deck [.fz (.int c), .fz (.int t)] = .ok (.new d) [.fz (.int c), .fz (.int t)] ∧ Dk 1000 d := by
  have n1 := fmod_range c 2147483579 (by decide)
  have p1 : decide (Int.natAbs 10 < 2 ^ 64) = true := by decide
  by_cases h : 10 ^ 18 ≤ c
  · refine ⟨.lst [.int (c - 10 ^ 18), .int (c.fmod 2147483579), .int t], ?_, _, _, _, rfl, n1.1, by omega, ht.1, by omega⟩
    unfold φ__law_deck
    simp only [dVar, vSlot, dC, dOp2, vOp2, dOpA, vOpA, vAn, An.r, dTst, DL.vBool, vTru, dTru, truth, dAnd, dOr, dNot, dAndV, dOrV, dNotV, dIfE, dNil, dCons, dTup, vTup, dLst, vLst, dSkip, vSeq, dSeq, dIf, dRet, dDrop, vSto, vSet, dSet, vAsg, dAsg, gN, DL.gNil, DL.gCons, gTupD, dFor, vTurn, dUn, gNeg, dMul, vMul, isNew, gAdd, DL.gSub, gII, tt2, cdiv, gFdiv, cmod, gMod, cpow, gPow, gLt, gLe, gGt, gGe, gEq_ii, gNe_ii, dIsN, DL.isNon, dCh, vCh, vCh2, dON, dOS, dSl, vSl, gSubL, dAug, vAug, isFN, vPar, dPar, vM, dM, isL, mApp, mPopAt, mPop, gIdx, vTIdx, isT, dTIdx, gIx, dFn, vFn, ress, gLen, gIsi5, isTy, kn, gAll, gAny, gInt, gAbs, gMax2, gMin2, gSum, gMax1, gMin1, gSorted, gList, gTuple, dR1, dR2, vR1, vR2, dLRg, dTRg, dLenSet, vLenSet, dSeqI, vSeqI, itemsOf, dRng1, dRng2, vRng1, vRng2, dEnum, dZip2, dZip3, vEnum, vZip2, vZip3, dLC, vLC, dCall, vCall, frzM, cSl, cSls, upR, cRes, atsOf, fnD, ownIn_G, ownG_nil, ownG_fz, ownG_no, ownG_own, wipeE, dStep, lcStep, dYes, vFin, vOut, outR, outE, dLend, vLend, lendE, backE, flatR, lend_fzo, back_fzo, lend_fz, lend_no, lend_own1, lend_own0, back_fz, back_no, back_own1, back_own0, flat_ints, flatO_ints, yPlain, yNil, vYSeq, ySeq, vYield, yYield, yFor, vGen, fzE, gnD, noE, vListG, dListG, gAddI, gMulI, dLit, dFmt, vFmt, dJs, dJoin, gStr, dCallB, vCallB, keepOwn, isOwn, res, frz, frzs, flat, O.bind_ok, O.bind_bad, O.bind_exn, List.nodup_cons, List.nodup_nil, List.not_mem_nil, List.mem_cons, List.mem_singleton, not_false_eq_true, and_true, true_and, List.contains_cons, List.contains_nil, Nat.zero_add, List.getElem?_nil, List.getElem?_cons_zero, List.getElem?_cons_succ, List.set_cons_zero, List.set_cons_succ, Option.map_some, Option.map_none, if_true, if_false, Bool.and_true, Bool.true_and, Bool.and_false, Bool.false_and, Bool.or_true, Bool.true_or, Bool.or_false, Bool.false_or, Bool.not_true, Bool.not_false, List.length_cons, List.length_nil, List.append_nil, List.cons_append, List.nil_append, List.replicate_succ, List.replicate_zero, decide_true, decide_false, ↓reduceIte, Int.cast_ofNat_Int, Int.reduceLE, Int.reduceLT, Int.reduceToNat, Int.reduceAdd, Int.reduceSub, Int.reduceMul, Int.reduceNeg, Int.reduceEq, Int.reduceNe, Int.reduceBEq, Int.reduceBNe, Int.reduceGT, Int.reduceGE, ne_eq, Nat.reduceAdd, Nat.reduceLeDiff, Nat.reduceEqDiff, Nat.reduceSub, Nat.reduceMul, Nat.reduceLT, Nat.reduceBEq, String.reduceEq, reduceCtorEq, beq_self_eq_true, List.map_cons, List.map_nil, List.reverse_nil, h, p1]
  · refine ⟨.lst [.int 0, .int (c.fmod 2147483579), .int t], ?_, _, _, _, rfl, n1.1, by omega, ht.1, by omega⟩
    unfold φ__law_deck
    simp only [dVar, vSlot, dC, dOp2, vOp2, dOpA, vOpA, vAn, An.r, dTst, DL.vBool, vTru, dTru, truth, dAnd, dOr, dNot, dAndV, dOrV, dNotV, dIfE, dNil, dCons, dTup, vTup, dLst, vLst, dSkip, vSeq, dSeq, dIf, dRet, dDrop, vSto, vSet, dSet, vAsg, dAsg, gN, DL.gNil, DL.gCons, gTupD, dFor, vTurn, dUn, gNeg, dMul, vMul, isNew, gAdd, DL.gSub, gII, tt2, cdiv, gFdiv, cmod, gMod, cpow, gPow, gLt, gLe, gGt, gGe, gEq_ii, gNe_ii, dIsN, DL.isNon, dCh, vCh, vCh2, dON, dOS, dSl, vSl, gSubL, dAug, vAug, isFN, vPar, dPar, vM, dM, isL, mApp, mPopAt, mPop, gIdx, vTIdx, isT, dTIdx, gIx, dFn, vFn, ress, gLen, gIsi5, isTy, kn, gAll, gAny, gInt, gAbs, gMax2, gMin2, gSum, gMax1, gMin1, gSorted, gList, gTuple, dR1, dR2, vR1, vR2, dLRg, dTRg, dLenSet, vLenSet, dSeqI, vSeqI, itemsOf, dRng1, dRng2, vRng1, vRng2, dEnum, dZip2, dZip3, vEnum, vZip2, vZip3, dLC, vLC, dCall, vCall, frzM, cSl, cSls, upR, cRes, atsOf, fnD, ownIn_G, ownG_nil, ownG_fz, ownG_no, ownG_own, wipeE, dStep, lcStep, dYes, vFin, vOut, outR, outE, dLend, vLend, lendE, backE, flatR, lend_fzo, back_fzo, lend_fz, lend_no, lend_own1, lend_own0, back_fz, back_no, back_own1, back_own0, flat_ints, flatO_ints, yPlain, yNil, vYSeq, ySeq, vYield, yYield, yFor, vGen, fzE, gnD, noE, vListG, dListG, gAddI, gMulI, dLit, dFmt, vFmt, dJs, dJoin, gStr, dCallB, vCallB, keepOwn, isOwn, res, frz, frzs, flat, O.bind_ok, O.bind_bad, O.bind_exn, List.nodup_cons, List.nodup_nil, List.not_mem_nil, List.mem_cons, List.mem_singleton, not_false_eq_true, and_true, true_and, List.contains_cons, List.contains_nil, Nat.zero_add, List.getElem?_nil, List.getElem?_cons_zero, List.getElem?_cons_succ, List.set_cons_zero, List.set_cons_succ, Option.map_some, Option.map_none, if_true, if_false, Bool.and_true, Bool.true_and, Bool.and_false, Bool.false_and, Bool.or_true, Bool.true_or, Bool.or_false, Bool.false_or, Bool.not_true, Bool.not_false, List.length_cons, List.length_nil, List.append_nil, List.cons_append, List.nil_append, List.replicate_succ, List.replicate_zero, decide_true, decide_false, ↓reduceIte, Int.cast_ofNat_Int, Int.reduceLE, Int.reduceLT, Int.reduceToNat, Int.reduceAdd, Int.reduceSub, Int.reduceMul, Int.reduceNeg, Int.reduceEq, Int.reduceNe, Int.reduceBEq, Int.reduceBNe, Int.reduceGT, Int.reduceGE, ne_eq, Nat.reduceAdd, Nat.reduceLeDiff, Nat.reduceEqDiff, Nat.reduceSub, Nat.reduceMul, Nat.reduceLT, Nat.reduceBEq, String.reduceEq, reduceCtorEq, beq_self_eq_true, List.map_cons, List.map_nil, List.reverse_nil, h, p1]
theorem cut_any {α : Type} (l : List α) (k : Nat) : cut l none (some (k : Int)) = l.take k := by
  unfold cut
  rw [HT.sIx_none, HT.sIx_nat, List.drop_zero, Nat.sub_zero]
  by_cases h : k ≤ l.length
  · rw [Nat.min_eq_left h]
  · rw [Nat.min_eq_right (by omega), List.take_length, List.take_of_length_le (by omega)]

def isOkT (o : O R) (t : Int) : Bool :=
  match o with
  | .ok (.fz (.bl true)) [.fz (.int j)] => j == t
  | _ => false
theorem isOkT_eq {o : O R} {t : Int} (h : isOkT o t = true) : o = .ok (.fz (.bl true)) [.fz (.int t)] := by
  unfold isOkT at h
  split at h
  · rename_i j
    have := eq_of_beq h
    subst this
    rfl
  · cases h
def allT (f : En → O R) : Bool := (List.range 12).all fun i => isOkT (f [.fz (.int (2 + (i : Nat)))]) (2 + (i : Nat))
theorem allT_at {f : En → O R} (h : allT f = true) {v : Int} (h0 : 0 ≤ v) (h1 : v < 12) : f [.fz (.int (2 + v))] = .ok (.fz (.bl true)) [.fz (.int (2 + v))] := by
  have := List.all_eq_true.mp h v.toNat (List.mem_range.mpr (by omega))
  rw [show ((v.toNat : Nat) : Int) = v by omega] at this
  exact isOkT_eq this

theorem four_T : allT φ__law_four_right = true := by decide +kernel

theorem three_T : allT φ__law_three_right = true := by decide +kernel

theorem L_cell (A0 : Sl) : ∀ (cs : List Int) (a1 a2 : Sl), ∃ b1 b2, dLoop g_law_1 b_law_1 (cs.map D.int) [A0, a1, a2] = .ok .nx [A0, b1, b2]
  | [], a1, a2 => ⟨a1, a2, rfl⟩
  | c :: cs, a1, a2 => by
    obtain ⟨d0, e0, h0⟩ := x_deck c 21 (by omega)
    obtain ⟨v, d1, e1, v0, v1, _⟩ := x_pick 1000 d0 12 h0 (by omega) (by omega) (by omega)
    have r1 := allT_at four_T v0 v1
    have r2 := allT_at three_T v0 v1
    obtain ⟨b1, b2, e⟩ := L_cell A0 cs (.fz (.int c)) (.fz (.int (2 + v)))
    refine ⟨b1, b2, ?_⟩
    have st : dStep g_law_1 b_law_1 (.int c) [A0, a1, a2] = .ok .nx [A0, .fz (.int c), .fz (.int (2 + v))] := by
      unfold g_law_1 b_law_1
      simp only [dVar, vSlot, dC, dOp2, vOp2, dOpA, vOpA, vAn, An.r, dTst, DL.vBool, vTru, dTru, truth, dAnd, dOr, dNot, dAndV, dOrV, dNotV, dIfE, dNil, dCons, dTup, vTup, dLst, vLst, dSkip, vSeq, dSeq, dIf, dRet, dDrop, vSto, vSet, dSet, vAsg, dAsg, gN, DL.gNil, DL.gCons, gTupD, dFor, vTurn, dUn, gNeg, dMul, vMul, isNew, gAdd, DL.gSub, gII, tt2, cdiv, gFdiv, cmod, gMod, cpow, gPow, gLt, gLe, gGt, gGe, gEq_ii, gNe_ii, dIsN, DL.isNon, dCh, vCh, vCh2, dON, dOS, dSl, vSl, gSubL, dAug, vAug, isFN, vPar, dPar, vM, dM, isL, mApp, mPopAt, mPop, gIdx, vTIdx, isT, dTIdx, gIx, dFn, vFn, ress, gLen, gIsi5, isTy, kn, gAll, gAny, gInt, gAbs, gMax2, gMin2, gSum, gMax1, gMin1, gSorted, gList, gTuple, dR1, dR2, vR1, vR2, dLRg, dTRg, dLenSet, vLenSet, dSeqI, vSeqI, itemsOf, dRng1, dRng2, vRng1, vRng2, dEnum, dZip2, dZip3, vEnum, vZip2, vZip3, dLC, vLC, dCall, vCall, frzM, cSl, cSls, upR, cRes, atsOf, fnD, ownIn_G, ownG_nil, ownG_fz, ownG_no, ownG_own, wipeE, dStep, lcStep, dYes, vFin, vOut, outR, outE, dLend, vLend, lendE, backE, flatR, lend_fzo, back_fzo, lend_fz, lend_no, lend_own1, lend_own0, back_fz, back_no, back_own1, back_own0, flat_ints, flatO_ints, yPlain, yNil, vYSeq, ySeq, vYield, yYield, yFor, vGen, fzE, gnD, noE, vListG, dListG, gAddI, gMulI, dLit, dFmt, vFmt, dJs, dJoin, gStr, dCallB, vCallB, keepOwn, isOwn, res, frz, frzs, flat, O.bind_ok, O.bind_bad, O.bind_exn, List.nodup_cons, List.nodup_nil, List.not_mem_nil, List.mem_cons, List.mem_singleton, not_false_eq_true, and_true, true_and, List.contains_cons, List.contains_nil, Nat.zero_add, List.getElem?_nil, List.getElem?_cons_zero, List.getElem?_cons_succ, List.set_cons_zero, List.set_cons_succ, Option.map_some, Option.map_none, if_true, if_false, Bool.and_true, Bool.true_and, Bool.and_false, Bool.false_and, Bool.or_true, Bool.true_or, Bool.or_false, Bool.false_or, Bool.not_true, Bool.not_false, List.length_cons, List.length_nil, List.append_nil, List.cons_append, List.nil_append, List.replicate_succ, List.replicate_zero, decide_true, decide_false, ↓reduceIte, Int.cast_ofNat_Int, Int.reduceLE, Int.reduceLT, Int.reduceToNat, Int.reduceAdd, Int.reduceSub, Int.reduceMul, Int.reduceNeg, Int.reduceEq, Int.reduceNe, Int.reduceBEq, Int.reduceBNe, Int.reduceGT, Int.reduceGE, ne_eq, Nat.reduceAdd, Nat.reduceLeDiff, Nat.reduceEqDiff, Nat.reduceSub, Nat.reduceMul, Nat.reduceLT, Nat.reduceBEq, String.reduceEq, reduceCtorEq, beq_self_eq_true, List.map_cons, List.map_nil, List.reverse_nil, e0, e1, r1, r2]
    rw [List.map_cons, dLoop_cons, st]
    exact e
def endT (o : O R) : Bool :=
  match o with
  | .ok (.fz (.tup [.int 1, .str x])) [_, _] => decide (x = "10&8")
  | _ => false
theorem endT_eq {o : O R} (h : endT o = true) : ∃ a b, o = .ok (.fz (.tup [.int 1, .str "10&8"])) [a, b] := by
  unfold endT at h
  split at h
  · rename_i x a b
    have := of_decide_eq_true h
    subst this
    exact ⟨a, b, rfl⟩
  · cases h
theorem end_18 : endT (φ_ending [.fz (.tup [.tup (rep 18 [.int 4]), .tup (rep 18 [.int 5]), .tup (rangeD 1 18)]), .fz (.int 0)]) = true := by decide +kernel
theorem law_true (ns : List Int) (h : ns.length ≤ 63) : ∃ ε, φ_law [.fz (.lst (ns.map D.int))] = .ok (.fz (.bl true)) ε := by
  obtain ⟨b1, b2, e⟩ := L_cell (.fz (.lst (ns.map D.int))) ((0 :: ns).take 4) .no .no
  refine ⟨[.fz (.lst (ns.map D.int))], ?_⟩
  have hb : 0 + 1 + (ns.map D.int).length ≤ big := by rw [List.length_map]; unfold big; omega
  have hc : cut (.int 0 :: ns.map D.int) none (some 4) = ((0 :: ns).take 4).map D.int := by
    have := cut_any (D.int 0 :: ns.map D.int) 4
    exact this.trans (by rw [← List.map_cons (f := D.int), List.map_take])
  obtain ⟨ε1, ε2, r1⟩ := endT_eq end_18
  have o1 : PyData.strOk "10&8" = true := by decide +kernel
  have q1 : gEq (.tup [.int 1, .str "10&8"]) (.tup [.int 1, .str "10&8"]) = some (.bl true) := by
    simp [gEq, okq, sok, soks, dep, deps, deq, deqs, PyData.canLay0, o1]
  have m4 : gRepT (.tup [.int 4]) (.int 18) = some (.nt (rep 18 [.int 4])) := by rfl
  have m5 : gRepT (.tup [.int 5]) (.int 18) = some (.nt (rep 18 [.int 5])) := by rfl
  have m6 : rgOk 1 19 = true := by decide
  unfold φ_law
  simp only [dVar, vSlot, dC, dOp2, vOp2, dOpA, vOpA, vAn, An.r, dTst, DL.vBool, vTru, dTru, truth, dAnd, dOr, dNot, dAndV, dOrV, dNotV, dIfE, dNil, dCons, dTup, vTup, dLst, vLst, dSkip, vSeq, dSeq, dIf, dRet, dDrop, vSto, vSet, dSet, vAsg, dAsg, gN, DL.gNil, DL.gCons, gTupD, dFor, vTurn, dUn, gNeg, dMul, vMul, isNew, gAdd, DL.gSub, gII, tt2, cdiv, gFdiv, cmod, gMod, cpow, gPow, gLt, gLe, gGt, gGe, gEq_ii, gNe_ii, dIsN, DL.isNon, dCh, vCh, vCh2, dON, dOS, dSl, vSl, gSubL, dAug, vAug, isFN, vPar, dPar, vM, dM, isL, mApp, mPopAt, mPop, gIdx, vTIdx, isT, dTIdx, gIx, dFn, vFn, ress, gLen, gIsi5, isTy, kn, gAll, gAny, gInt, gAbs, gMax2, gMin2, gSum, gMax1, gMin1, gSorted, gList, gTuple, dR1, dR2, vR1, vR2, dLRg, dTRg, dLenSet, vLenSet, dSeqI, vSeqI, itemsOf, dRng1, dRng2, vRng1, vRng2, dEnum, dZip2, dZip3, vEnum, vZip2, vZip3, dLC, vLC, dCall, vCall, frzM, cSl, cSls, upR, cRes, atsOf, fnD, ownIn_G, ownG_nil, ownG_fz, ownG_no, ownG_own, wipeE, dStep, lcStep, dYes, vFin, vOut, outR, outE, dLend, vLend, lendE, backE, flatR, lend_fzo, back_fzo, lend_fz, lend_no, lend_own1, lend_own0, back_fz, back_no, back_own1, back_own0, flat_ints, flatO_ints, yPlain, yNil, vYSeq, ySeq, vYield, yYield, yFor, vGen, fzE, gnD, noE, vListG, dListG, gAddI, gMulI, dLit, dFmt, vFmt, dJs, dJoin, gStr, dCallB, vCallB, keepOwn, isOwn, res, frz, frzs, flat, O.bind_ok, O.bind_bad, O.bind_exn, List.nodup_cons, List.nodup_nil, List.not_mem_nil, List.mem_cons, List.mem_singleton, not_false_eq_true, and_true, true_and, List.contains_cons, List.contains_nil, Nat.zero_add, List.getElem?_nil, List.getElem?_cons_zero, List.getElem?_cons_succ, List.set_cons_zero, List.set_cons_succ, Option.map_some, Option.map_none, if_true, if_false, Bool.and_true, Bool.true_and, Bool.and_false, Bool.false_and, Bool.or_true, Bool.true_or, Bool.or_false, Bool.false_or, Bool.not_true, Bool.not_false, List.length_cons, List.length_nil, List.append_nil, List.cons_append, List.nil_append, List.replicate_succ, List.replicate_zero, decide_true, decide_false, ↓reduceIte, Int.cast_ofNat_Int, Int.reduceLE, Int.reduceLT, Int.reduceToNat, Int.reduceAdd, Int.reduceSub, Int.reduceMul, Int.reduceNeg, Int.reduceEq, Int.reduceNe, Int.reduceBEq, Int.reduceBNe, Int.reduceGT, Int.reduceGE, ne_eq, Nat.reduceAdd, Nat.reduceLeDiff, Nat.reduceEqDiff, Nat.reduceSub, Nat.reduceMul, Nat.reduceLT, Nat.reduceBEq, String.reduceEq, reduceCtorEq, beq_self_eq_true, List.map_cons, List.map_nil, List.reverse_nil, hb, hc, e, r1, q1, m4, m5, m6]

end K21

namespace K21
open PySem PySem.Spec PyProof.Rows L2 DL
def T0 : Tab := ⟨fun _ => 0, fun _ => 0⟩
theorem all_mk {l : PySem.W.OpenLaw} {w : World} {K : PySem.W.Frag} {h : Heap} {mg : Str → Option Value} {fa : Addr} (X : K.In h) (G : h.Ns mainGlobals mg) (hfa : mg "law" = some (.ref fa))
    {f0 : Addr} {od0 an0 : Option Addr} {sl0 : Array (Option Value)} {oc0 kV0 dc0 pm0 cd0 ct0 : Value}
    (a0 : PySem.W.nsIn K mainGlobals "is_from" = some (some (.ref f0))) (l0 : K.lookup f0 = some ⟨oc0, od0, .func (PySem.W.fnOf "is_from" "is_from" (defArgs s_is_from) (defBody s_is_from) (defScope s_is_from) .none kV0 dc0 pm0 an0 cd0 ct0), sl0⟩) (c0 : PySem.W.codeIn K cd0 "is_from" = true) (k0 : PySem.W.keepIn K (.ref f0) = true)
    {f1 : Addr} {od1 an1 : Option Addr} {sl1 : Array (Option Value)} {oc1 kV1 dc1 pm1 cd1 ct1 : Value}
    (a1 : PySem.W.nsIn K mainGlobals "good_index" = some (some (.ref f1))) (l1 : K.lookup f1 = some ⟨oc1, od1, .func (PySem.W.fnOf "good_index" "good_index" (defArgs s_good_index) (defBody s_good_index) (defScope s_good_index) .none kV1 dc1 pm1 an1 cd1 ct1), sl1⟩) (c1 : PySem.W.codeIn K cd1 "good_index" = true) (k1 : PySem.W.keepIn K (.ref f1) = true)
    {f2 : Addr} {od2 an2 : Option Addr} {sl2 : Array (Option Value)} {oc2 kV2 dc2 pm2 cd2 ct2 : Value}
    (a2 : PySem.W.nsIn K mainGlobals "good_scores" = some (some (.ref f2))) (l2 : K.lookup f2 = some ⟨oc2, od2, .func (PySem.W.fnOf "good_scores" "good_scores" (defArgs s_good_scores) (defBody s_good_scores) (defScope s_good_scores) .none kV2 dc2 pm2 an2 cd2 ct2), sl2⟩) (c2 : PySem.W.codeIn K cd2 "good_scores" = true) (k2 : PySem.W.keepIn K (.ref f2) = true)
    {f3 : Addr} {od3 an3 : Option Addr} {sl3 : Array (Option Value)} {oc3 kV3 dc3 pm3 cd3 ct3 : Value}
    (a3 : PySem.W.nsIn K mainGlobals "is_match" = some (some (.ref f3))) (l3 : K.lookup f3 = some ⟨oc3, od3, .func (PySem.W.fnOf "is_match" "is_match" (defArgs s_is_match) (defBody s_is_match) (defScope s_is_match) .none kV3 dc3 pm3 an3 cd3 ct3), sl3⟩) (c3 : PySem.W.codeIn K cd3 "is_match" = true) (k3 : PySem.W.keepIn K (.ref f3) = true)
    {f4 : Addr} {od4 an4 : Option Addr} {sl4 : Array (Option Value)} {oc4 kV4 dc4 pm4 cd4 ct4 : Value}
    (a4 : PySem.W.nsIn K mainGlobals "need_match" = some (some (.ref f4))) (l4 : K.lookup f4 = some ⟨oc4, od4, .func (PySem.W.fnOf "need_match" "need_match" (defArgs s_need_match) (defBody s_need_match) (defScope s_need_match) .none kV4 dc4 pm4 an4 cd4 ct4), sl4⟩) (c4 : PySem.W.codeIn K cd4 "need_match" = true) (k4 : PySem.W.keepIn K (.ref f4) = true)
    {f5 : Addr} {od5 an5 : Option Addr} {sl5 : Array (Option Value)} {oc5 kV5 dc5 pm5 cd5 ct5 : Value}
    (a5 : PySem.W.nsIn K mainGlobals "need_strokes" = some (some (.ref f5))) (l5 : K.lookup f5 = some ⟨oc5, od5, .func (PySem.W.fnOf "need_strokes" "need_strokes" (defArgs s_need_strokes) (defBody s_need_strokes) (defScope s_need_strokes) .none kV5 dc5 pm5 an5 cd5 ct5), sl5⟩) (c5 : PySem.W.codeIn K cd5 "need_strokes" = true) (k5 : PySem.W.keepIn K (.ref f5) = true)
    {f6 : Addr} {od6 an6 : Option Addr} {sl6 : Array (Option Value)} {oc6 kV6 dc6 pm6 cd6 ct6 : Value}
    (a6 : PySem.W.nsIn K mainGlobals "end_of" = some (some (.ref f6))) (l6 : K.lookup f6 = some ⟨oc6, od6, .func (PySem.W.fnOf "end_of" "end_of" (defArgs s_end_of) (defBody s_end_of) (defScope s_end_of) .none kV6 dc6 pm6 an6 cd6 ct6), sl6⟩) (c6 : PySem.W.codeIn K cd6 "end_of" = true) (k6 : PySem.W.keepIn K (.ref f6) = true)
    {f7 : Addr} {od7 an7 : Option Addr} {sl7 : Array (Option Value)} {oc7 kV7 dc7 pm7 cd7 ct7 : Value}
    (a7 : PySem.W.nsIn K mainGlobals "sign" = some (some (.ref f7))) (l7 : K.lookup f7 = some ⟨oc7, od7, .func (PySem.W.fnOf "sign" "sign" (defArgs s_sign) (defBody s_sign) (defScope s_sign) .none kV7 dc7 pm7 an7 cd7 ct7), sl7⟩) (c7 : PySem.W.codeIn K cd7 "sign" = true) (k7 : PySem.W.keepIn K (.ref f7) = true)
    {f8 : Addr} {od8 an8 : Option Addr} {sl8 : Array (Option Value)} {oc8 kV8 dc8 pm8 cd8 ct8 : Value}
    (a8 : PySem.W.nsIn K mainGlobals "at_hole" = some (some (.ref f8))) (l8 : K.lookup f8 = some ⟨oc8, od8, .func (PySem.W.fnOf "at_hole" "at_hole" (defArgs s_at_hole) (defBody s_at_hole) (defScope s_at_hole) .none kV8 dc8 pm8 an8 cd8 ct8), sl8⟩) (c8 : PySem.W.codeIn K cd8 "at_hole" = true) (k8 : PySem.W.keepIn K (.ref f8) = true)
    {f9 : Addr} {od9 an9 : Option Addr} {sl9 : Array (Option Value)} {oc9 kV9 dc9 pm9 cd9 ct9 : Value}
    (a9 : PySem.W.nsIn K mainGlobals "holes_of" = some (some (.ref f9))) (l9 : K.lookup f9 = some ⟨oc9, od9, .func (PySem.W.fnOf "holes_of" "holes_of" (defArgs s_holes_of) (defBody s_holes_of) (defScope s_holes_of) .none kV9 dc9 pm9 an9 cd9 ct9), sl9⟩) (c9 : PySem.W.codeIn K cd9 "holes_of" = true) (k9 : PySem.W.keepIn K (.ref f9) = true)
    {f10 : Addr} {od10 an10 : Option Addr} {sl10 : Array (Option Value)} {oc10 kV10 dc10 pm10 cd10 ct10 : Value}
    (a10 : PySem.W.nsIn K mainGlobals "leads_of" = some (some (.ref f10))) (l10 : K.lookup f10 = some ⟨oc10, od10, .func (PySem.W.fnOf "leads_of" "leads_of" (defArgs s_leads_of) (defBody s_leads_of) (defScope s_leads_of) .none kV10 dc10 pm10 an10 cd10 ct10), sl10⟩) (c10 : PySem.W.codeIn K cd10 "leads_of" = true) (k10 : PySem.W.keepIn K (.ref f10) = true)
    {f11 : Addr} {od11 an11 : Option Addr} {sl11 : Array (Option Value)} {oc11 kV11 dc11 pm11 cd11 ct11 : Value}
    (a11 : PySem.W.nsIn K mainGlobals "word_for" = some (some (.ref f11))) (l11 : K.lookup f11 = some ⟨oc11, od11, .func (PySem.W.fnOf "word_for" "word_for" (defArgs s_word_for) (defBody s_word_for) (defScope s_word_for) .none kV11 dc11 pm11 an11 cd11 ct11), sl11⟩) (c11 : PySem.W.codeIn K cd11 "word_for" = true) (k11 : PySem.W.keepIn K (.ref f11) = true)
    {f12 : Addr} {od12 an12 : Option Addr} {sl12 : Array (Option Value)} {oc12 kV12 dc12 pm12 cd12 ct12 : Value}
    (a12 : PySem.W.nsIn K mainGlobals "ending" = some (some (.ref f12))) (l12 : K.lookup f12 = some ⟨oc12, od12, .func (PySem.W.fnOf "ending" "ending" (defArgs s_ending) (defBody s_ending) (defScope s_ending) .none kV12 dc12 pm12 an12 cd12 ct12), sl12⟩) (c12 : PySem.W.codeIn K cd12 "ending" = true) (k12 : PySem.W.keepIn K (.ref f12) = true)
    {f13 : Addr} {od13 an13 : Option Addr} {sl13 : Array (Option Value)} {oc13 kV13 dc13 pm13 cd13 ct13 : Value}
    (a13 : PySem.W.nsIn K mainGlobals "_law_pick" = some (some (.ref f13))) (l13 : K.lookup f13 = some ⟨oc13, od13, .func (PySem.W.fnOf "_law_pick" "_law_pick" (defArgs s__law_pick) (defBody s__law_pick) (defScope s__law_pick) .none kV13 dc13 pm13 an13 cd13 ct13), sl13⟩) (c13 : PySem.W.codeIn K cd13 "_law_pick" = true) (k13 : PySem.W.keepIn K (.ref f13) = true)
    {f14 : Addr} {od14 an14 : Option Addr} {sl14 : Array (Option Value)} {oc14 kV14 dc14 pm14 cd14 ct14 : Value}
    (a14 : PySem.W.nsIn K mainGlobals "_law_deck" = some (some (.ref f14))) (l14 : K.lookup f14 = some ⟨oc14, od14, .func (PySem.W.fnOf "_law_deck" "_law_deck" (defArgs s__law_deck) (defBody s__law_deck) (defScope s__law_deck) .none kV14 dc14 pm14 an14 cd14 ct14), sl14⟩) (c14 : PySem.W.codeIn K cd14 "_law_deck" = true) (k14 : PySem.W.keepIn K (.ref f14) = true)
    {f15 : Addr} {od15 an15 : Option Addr} {sl15 : Array (Option Value)} {oc15 kV15 dc15 pm15 cd15 ct15 : Value}
    (a15 : PySem.W.nsIn K mainGlobals "step" = some (some (.ref f15))) (l15 : K.lookup f15 = some ⟨oc15, od15, .func (PySem.W.fnOf "step" "step" (defArgs s_step) (defBody s_step) (defScope s_step) .none kV15 dc15 pm15 an15 cd15 ct15), sl15⟩) (c15 : PySem.W.codeIn K cd15 "step" = true) (k15 : PySem.W.keepIn K (.ref f15) = true)
    {f16 : Addr} {od16 an16 : Option Addr} {sl16 : Array (Option Value)} {oc16 kV16 dc16 pm16 cd16 ct16 : Value}
    (a16 : PySem.W.nsIn K mainGlobals "differences_of" = some (some (.ref f16))) (l16 : K.lookup f16 = some ⟨oc16, od16, .func (PySem.W.fnOf "differences_of" "differences_of" (defArgs s_differences_of) (defBody s_differences_of) (defScope s_differences_of) .none kV16 dc16 pm16 an16 cd16 ct16), sl16⟩) (c16 : PySem.W.codeIn K cd16 "differences_of" = true) (k16 : PySem.W.keepIn K (.ref f16) = true)
    {f17 : Addr} {od17 an17 : Option Addr} {sl17 : Array (Option Value)} {oc17 kV17 dc17 pm17 cd17 ct17 : Value}
    (a17 : PySem.W.nsIn K mainGlobals "is_stairs" = some (some (.ref f17))) (l17 : K.lookup f17 = some ⟨oc17, od17, .func (PySem.W.fnOf "is_stairs" "is_stairs" (defArgs s_is_stairs) (defBody s_is_stairs) (defScope s_is_stairs) .none kV17 dc17 pm17 an17 cd17 ct17), sl17⟩) (c17 : PySem.W.codeIn K cd17 "is_stairs" = true) (k17 : PySem.W.keepIn K (.ref f17) = true)
    {f18 : Addr} {od18 an18 : Option Addr} {sl18 : Array (Option Value)} {oc18 kV18 dc18 pm18 cd18 ct18 : Value}
    (a18 : PySem.W.nsIn K mainGlobals "strokes_at" = some (some (.ref f18))) (l18 : K.lookup f18 = some ⟨oc18, od18, .func (PySem.W.fnOf "strokes_at" "strokes_at" (defArgs s_strokes_at) (defBody s_strokes_at) (defScope s_strokes_at) .none kV18 dc18 pm18 an18 cd18 ct18), sl18⟩) (c18 : PySem.W.codeIn K cd18 "strokes_at" = true) (k18 : PySem.W.keepIn K (.ref f18) = true)
    {f19 : Addr} {od19 an19 : Option Addr} {sl19 : Array (Option Value)} {oc19 kV19 dc19 pm19 cd19 ct19 : Value}
    (a19 : PySem.W.nsIn K mainGlobals "stairs_of" = some (some (.ref f19))) (l19 : K.lookup f19 = some ⟨oc19, od19, .func (PySem.W.fnOf "stairs_of" "stairs_of" (defArgs s_stairs_of) (defBody s_stairs_of) (defScope s_stairs_of) .none kV19 dc19 pm19 an19 cd19 ct19), sl19⟩) (c19 : PySem.W.codeIn K cd19 "stairs_of" = true) (k19 : PySem.W.keepIn K (.ref f19) = true)
    {f20 : Addr} {od20 an20 : Option Addr} {sl20 : Array (Option Value)} {oc20 kV20 dc20 pm20 cd20 ct20 : Value}
    (a20 : PySem.W.nsIn K mainGlobals "stairs" = some (some (.ref f20))) (l20 : K.lookup f20 = some ⟨oc20, od20, .func (PySem.W.fnOf "stairs" "stairs" (defArgs s_stairs) (defBody s_stairs) (defScope s_stairs) .none kV20 dc20 pm20 an20 cd20 ct20), sl20⟩) (c20 : PySem.W.codeIn K cd20 "stairs" = true) (k20 : PySem.W.keepIn K (.ref f20) = true)
    {f21 : Addr} {od21 an21 : Option Addr} {sl21 : Array (Option Value)} {oc21 kV21 dc21 pm21 cd21 ct21 : Value}
    (a21 : PySem.W.nsIn K mainGlobals "range_for" = some (some (.ref f21))) (l21 : K.lookup f21 = some ⟨oc21, od21, .func (PySem.W.fnOf "range_for" "range_for" (defArgs s_range_for) (defBody s_range_for) (defScope s_range_for) .none kV21 dc21 pm21 an21 cd21 ct21), sl21⟩) (c21 : PySem.W.codeIn K cd21 "range_for" = true) (k21 : PySem.W.keepIn K (.ref f21) = true)
    {f22 : Addr} {od22 an22 : Option Addr} {sl22 : Array (Option Value)} {oc22 kV22 dc22 pm22 cd22 ct22 : Value}
    (a22 : PySem.W.nsIn K mainGlobals "halved" = some (some (.ref f22))) (l22 : K.lookup f22 = some ⟨oc22, od22, .func (PySem.W.fnOf "halved" "halved" (defArgs s_halved) (defBody s_halved) (defScope s_halved) .none kV22 dc22 pm22 an22 cd22 ct22), sl22⟩) (c22 : PySem.W.codeIn K cd22 "halved" = true) (k22 : PySem.W.keepIn K (.ref f22) = true)
    {f23 : Addr} {od23 an23 : Option Addr} {sl23 : Array (Option Value)} {oc23 kV23 dc23 pm23 cd23 ct23 : Value}
    (a23 : PySem.W.nsIn K mainGlobals "strokes_for" = some (some (.ref f23))) (l23 : K.lookup f23 = some ⟨oc23, od23, .func (PySem.W.fnOf "strokes_for" "strokes_for" (defArgs s_strokes_for) (defBody s_strokes_for) (defScope s_strokes_for) .none kV23 dc23 pm23 an23 cd23 ct23), sl23⟩) (c23 : PySem.W.codeIn K cd23 "strokes_for" = true) (k23 : PySem.W.keepIn K (.ref f23) = true)
    {f24 : Addr} {od24 an24 : Option Addr} {sl24 : Array (Option Value)} {oc24 kV24 dc24 pm24 cd24 ct24 : Value}
    (a24 : PySem.W.nsIn K mainGlobals "differences" = some (some (.ref f24))) (l24 : K.lookup f24 = some ⟨oc24, od24, .func (PySem.W.fnOf "differences" "differences" (defArgs s_differences) (defBody s_differences) (defScope s_differences) .none kV24 dc24 pm24 an24 cd24 ct24), sl24⟩) (c24 : PySem.W.codeIn K cd24 "differences" = true) (k24 : PySem.W.keepIn K (.ref f24) = true)
    {f25 : Addr} {od25 an25 : Option Addr} {sl25 : Array (Option Value)} {oc25 kV25 dc25 pm25 cd25 ct25 : Value}
    (a25 : PySem.W.nsIn K mainGlobals "result" = some (some (.ref f25))) (l25 : K.lookup f25 = some ⟨oc25, od25, .func (PySem.W.fnOf "result" "result" (defArgs s_result) (defBody s_result) (defScope s_result) .none kV25 dc25 pm25 an25 cd25 ct25), sl25⟩) (c25 : PySem.W.codeIn K cd25 "result" = true) (k25 : PySem.W.keepIn K (.ref f25) = true)
    {f26 : Addr} {od26 an26 : Option Addr} {sl26 : Array (Option Value)} {oc26 kV26 dc26 pm26 cd26 ct26 : Value}
    (a26 : PySem.W.nsIn K mainGlobals "hole_results" = some (some (.ref f26))) (l26 : K.lookup f26 = some ⟨oc26, od26, .func (PySem.W.fnOf "hole_results" "hole_results" (defArgs s_hole_results) (defBody s_hole_results) (defScope s_hole_results) .none kV26 dc26 pm26 an26 cd26 ct26), sl26⟩) (c26 : PySem.W.codeIn K cd26 "hole_results" = true) (k26 : PySem.W.keepIn K (.ref f26) = true)
    {f27 : Addr} {od27 an27 : Option Addr} {sl27 : Array (Option Value)} {oc27 kV27 dc27 pm27 cd27 ct27 : Value}
    (a27 : PySem.W.nsIn K mainGlobals "holes_played" = some (some (.ref f27))) (l27 : K.lookup f27 = some ⟨oc27, od27, .func (PySem.W.fnOf "holes_played" "holes_played" (defArgs s_holes_played) (defBody s_holes_played) (defScope s_holes_played) .none kV27 dc27 pm27 an27 cd27 ct27), sl27⟩) (c27 : PySem.W.codeIn K cd27 "holes_played" = true) (k27 : PySem.W.keepIn K (.ref f27) = true)
    {f28 : Addr} {od28 an28 : Option Addr} {sl28 : Array (Option Value)} {oc28 kV28 dc28 pm28 cd28 ct28 : Value}
    (a28 : PySem.W.nsIn K mainGlobals "need_scores" = some (some (.ref f28))) (l28 : K.lookup f28 = some ⟨oc28, od28, .func (PySem.W.fnOf "need_scores" "need_scores" (defArgs s_need_scores) (defBody s_need_scores) (defScope s_need_scores) .none kV28 dc28 pm28 an28 cd28 ct28), sl28⟩) (c28 : PySem.W.codeIn K cd28 "need_scores" = true) (k28 : PySem.W.keepIn K (.ref f28) = true)
    {f29 : Addr} {od29 an29 : Option Addr} {sl29 : Array (Option Value)} {oc29 kV29 dc29 pm29 cd29 ct29 : Value}
    (a29 : PySem.W.nsIn K mainGlobals "need_few" = some (some (.ref f29))) (l29 : K.lookup f29 = some ⟨oc29, od29, .func (PySem.W.fnOf "need_few" "need_few" (defArgs s_need_few) (defBody s_need_few) (defScope s_need_few) .none kV29 dc29 pm29 an29 cd29 ct29), sl29⟩) (c29 : PySem.W.codeIn K cd29 "need_few" = true) (k29 : PySem.W.keepIn K (.ref f29) = true)
    {f30 : Addr} {od30 an30 : Option Addr} {sl30 : Array (Option Value)} {oc30 kV30 dc30 pm30 cd30 ct30 : Value}
    (a30 : PySem.W.nsIn K mainGlobals "ground" = some (some (.ref f30))) (l30 : K.lookup f30 = some ⟨oc30, od30, .func (PySem.W.fnOf "ground" "ground" (defArgs s_ground) (defBody s_ground) (defScope s_ground) .none kV30 dc30 pm30 an30 cd30 ct30), sl30⟩) (c30 : PySem.W.codeIn K cd30 "ground" = true) (k30 : PySem.W.keepIn K (.ref f30) = true)
    {f31 : Addr} {od31 an31 : Option Addr} {sl31 : Array (Option Value)} {oc31 kV31 dc31 pm31 cd31 ct31 : Value}
    (a31 : PySem.W.nsIn K mainGlobals "factorial" = some (some (.ref f31))) (l31 : K.lookup f31 = some ⟨oc31, od31, .func (PySem.W.fnOf "factorial" "factorial" (defArgs s_factorial) (defBody s_factorial) (defScope s_factorial) .none kV31 dc31 pm31 an31 cd31 ct31), sl31⟩) (c31 : PySem.W.codeIn K cd31 "factorial" = true) (k31 : PySem.W.keepIn K (.ref f31) = true)
    {f32 : Addr} {od32 an32 : Option Addr} {sl32 : Array (Option Value)} {oc32 kV32 dc32 pm32 cd32 ct32 : Value}
    (a32 : PySem.W.nsIn K mainGlobals "choose" = some (some (.ref f32))) (l32 : K.lookup f32 = some ⟨oc32, od32, .func (PySem.W.fnOf "choose" "choose" (defArgs s_choose) (defBody s_choose) (defScope s_choose) .none kV32 dc32 pm32 an32 cd32 ct32), sl32⟩) (c32 : PySem.W.codeIn K cd32 "choose" = true) (k32 : PySem.W.keepIn K (.ref f32) = true)
    {f33 : Addr} {od33 an33 : Option Addr} {sl33 : Array (Option Value)} {oc33 kV33 dc33 pm33 cd33 ct33 : Value}
    (a33 : PySem.W.nsIn K mainGlobals "ways" = some (some (.ref f33))) (l33 : K.lookup f33 = some ⟨oc33, od33, .func (PySem.W.fnOf "ways" "ways" (defArgs s_ways) (defBody s_ways) (defScope s_ways) .none kV33 dc33 pm33 an33 cd33 ct33), sl33⟩) (c33 : PySem.W.codeIn K cd33 "ways" = true) (k33 : PySem.W.keepIn K (.ref f33) = true)
    {f34 : Addr} {od34 an34 : Option Addr} {sl34 : Array (Option Value)} {oc34 kV34 dc34 pm34 cd34 ct34 : Value}
    (a34 : PySem.W.nsIn K mainGlobals "count_orders" = some (some (.ref f34))) (l34 : K.lookup f34 = some ⟨oc34, od34, .func (PySem.W.fnOf "count_orders" "count_orders" (defArgs s_count_orders) (defBody s_count_orders) (defScope s_count_orders) .none kV34 dc34 pm34 an34 cd34 ct34), sl34⟩) (c34 : PySem.W.codeIn K cd34 "count_orders" = true) (k34 : PySem.W.keepIn K (.ref f34) = true)
    {f35 : Addr} {od35 an35 : Option Addr} {sl35 : Array (Option Value)} {oc35 kV35 dc35 pm35 cd35 ct35 : Value}
    (a35 : PySem.W.nsIn K mainGlobals "need_seen" = some (some (.ref f35))) (l35 : K.lookup f35 = some ⟨oc35, od35, .func (PySem.W.fnOf "need_seen" "need_seen" (defArgs s_need_seen) (defBody s_need_seen) (defScope s_need_seen) .none kV35 dc35 pm35 an35 cd35 ct35), sl35⟩) (c35 : PySem.W.codeIn K cd35 "need_seen" = true) (k35 : PySem.W.keepIn K (.ref f35) = true)
    {f36 : Addr} {od36 an36 : Option Addr} {sl36 : Array (Option Value)} {oc36 kV36 dc36 pm36 cd36 ct36 : Value}
    (a36 : PySem.W.nsIn K mainGlobals "with_more" = some (some (.ref f36))) (l36 : K.lookup f36 = some ⟨oc36, od36, .func (PySem.W.fnOf "with_more" "with_more" (defArgs s_with_more) (defBody s_with_more) (defScope s_with_more) .none kV36 dc36 pm36 an36 cd36 ct36), sl36⟩) (c36 : PySem.W.codeIn K cd36 "with_more" = true) (k36 : PySem.W.keepIn K (.ref f36) = true)
    {f37 : Addr} {od37 an37 : Option Addr} {sl37 : Array (Option Value)} {oc37 kV37 dc37 pm37 cd37 ct37 : Value}
    (a37 : PySem.W.nsIn K mainGlobals "possible_results" = some (some (.ref f37))) (l37 : K.lookup f37 = some ⟨oc37, od37, .func (PySem.W.fnOf "possible_results" "possible_results" (defArgs s_possible_results) (defBody s_possible_results) (defScope s_possible_results) .none kV37 dc37 pm37 an37 cd37 ct37), sl37⟩) (c37 : PySem.W.codeIn K cd37 "possible_results" = true) (k37 : PySem.W.keepIn K (.ref f37) = true)
    {f38 : Addr} {od38 an38 : Option Addr} {sl38 : Array (Option Value)} {oc38 kV38 dc38 pm38 cd38 ct38 : Value}
    (a38 : PySem.W.nsIn K mainGlobals "count_indexes" = some (some (.ref f38))) (l38 : K.lookup f38 = some ⟨oc38, od38, .func (PySem.W.fnOf "count_indexes" "count_indexes" (defArgs s_count_indexes) (defBody s_count_indexes) (defScope s_count_indexes) .none kV38 dc38 pm38 an38 cd38 ct38), sl38⟩) (c38 : PySem.W.codeIn K cd38 "count_indexes" = true) (k38 : PySem.W.keepIn K (.ref f38) = true)
    {f39 : Addr} {od39 an39 : Option Addr} {sl39 : Array (Option Value)} {oc39 kV39 dc39 pm39 cd39 ct39 : Value}
    (a39 : PySem.W.nsIn K mainGlobals "prices" = some (some (.ref f39))) (l39 : K.lookup f39 = some ⟨oc39, od39, .func (PySem.W.fnOf "prices" "prices" (defArgs s_prices) (defBody s_prices) (defScope s_prices) .none kV39 dc39 pm39 an39 cd39 ct39), sl39⟩) (c39 : PySem.W.codeIn K cd39 "prices" = true) (k39 : PySem.W.keepIn K (.ref f39) = true)
    {f40 : Addr} {od40 an40 : Option Addr} {sl40 : Array (Option Value)} {oc40 kV40 dc40 pm40 cd40 ct40 : Value}
    (a40 : PySem.W.nsIn K mainGlobals "cheapest" = some (some (.ref f40))) (l40 : K.lookup f40 = some ⟨oc40, od40, .func (PySem.W.fnOf "cheapest" "cheapest" (defArgs s_cheapest) (defBody s_cheapest) (defScope s_cheapest) .none kV40 dc40 pm40 an40 cd40 ct40), sl40⟩) (c40 : PySem.W.codeIn K cd40 "cheapest" = true) (k40 : PySem.W.keepIn K (.ref f40) = true)
    {f41 : Addr} {od41 an41 : Option Addr} {sl41 : Array (Option Value)} {oc41 kV41 dc41 pm41 cd41 ct41 : Value}
    (a41 : PySem.W.nsIn K mainGlobals "best_saving" = some (some (.ref f41))) (l41 : K.lookup f41 = some ⟨oc41, od41, .func (PySem.W.fnOf "best_saving" "best_saving" (defArgs s_best_saving) (defBody s_best_saving) (defScope s_best_saving) .none kV41 dc41 pm41 an41 cd41 ct41), sl41⟩) (c41 : PySem.W.codeIn K cd41 "best_saving" = true) (k41 : PySem.W.keepIn K (.ref f41) = true)
    {f42 : Addr} {od42 an42 : Option Addr} {sl42 : Array (Option Value)} {oc42 kV42 dc42 pm42 cd42 ct42 : Value}
    (a42 : PySem.W.nsIn K mainGlobals "fewest_saved" = some (some (.ref f42))) (l42 : K.lookup f42 = some ⟨oc42, od42, .func (PySem.W.fnOf "fewest_saved" "fewest_saved" (defArgs s_fewest_saved) (defBody s_fewest_saved) (defScope s_fewest_saved) .none kV42 dc42 pm42 an42 cd42 ct42), sl42⟩) (c42 : PySem.W.codeIn K cd42 "fewest_saved" = true) (k42 : PySem.W.keepIn K (.ref f42) = true)
    {f43 : Addr} {od43 an43 : Option Addr} {sl43 : Array (Option Value)} {oc43 kV43 dc43 pm43 cd43 ct43 : Value}
    (a43 : PySem.W.nsIn K mainGlobals "_law_four_right" = some (some (.ref f43))) (l43 : K.lookup f43 = some ⟨oc43, od43, .func (PySem.W.fnOf "_law_four_right" "_law_four_right" (defArgs s__law_four_right) (defBody s__law_four_right) (defScope s__law_four_right) .none kV43 dc43 pm43 an43 cd43 ct43), sl43⟩) (c43 : PySem.W.codeIn K cd43 "_law_four_right" = true) (k43 : PySem.W.keepIn K (.ref f43) = true)
    {f44 : Addr} {od44 an44 : Option Addr} {sl44 : Array (Option Value)} {oc44 kV44 dc44 pm44 cd44 ct44 : Value}
    (a44 : PySem.W.nsIn K mainGlobals "is_group" = some (some (.ref f44))) (l44 : K.lookup f44 = some ⟨oc44, od44, .func (PySem.W.fnOf "is_group" "is_group" (defArgs s_is_group) (defBody s_is_group) (defScope s_is_group) .none kV44 dc44 pm44 an44 cd44 ct44), sl44⟩) (c44 : PySem.W.codeIn K cd44 "is_group" = true) (k44 : PySem.W.keepIn K (.ref f44) = true)
    {f45 : Addr} {od45 an45 : Option Addr} {sl45 : Array (Option Value)} {oc45 kV45 dc45 pm45 cd45 ct45 : Value}
    (a45 : PySem.W.nsIn K mainGlobals "all_halved" = some (some (.ref f45))) (l45 : K.lookup f45 = some ⟨oc45, od45, .func (PySem.W.fnOf "all_halved" "all_halved" (defArgs s_all_halved) (defBody s_all_halved) (defScope s_all_halved) .none kV45 dc45 pm45 an45 cd45 ct45), sl45⟩) (c45 : PySem.W.codeIn K cd45 "all_halved" = true) (k45 : PySem.W.keepIn K (.ref f45) = true)
    {f46 : Addr} {od46 an46 : Option Addr} {sl46 : Array (Option Value)} {oc46 kV46 dc46 pm46 cd46 ct46 : Value}
    (a46 : PySem.W.nsIn K mainGlobals "good_handicaps" = some (some (.ref f46))) (l46 : K.lookup f46 = some ⟨oc46, od46, .func (PySem.W.fnOf "good_handicaps" "good_handicaps" (defArgs s_good_handicaps) (defBody s_good_handicaps) (defScope s_good_handicaps) .none kV46 dc46 pm46 an46 cd46 ct46), sl46⟩) (c46 : PySem.W.codeIn K cd46 "good_handicaps" = true) (k46 : PySem.W.keepIn K (.ref f46) = true)
    {f47 : Addr} {od47 an47 : Option Addr} {sl47 : Array (Option Value)} {oc47 kV47 dc47 pm47 cd47 ct47 : Value}
    (a47 : PySem.W.nsIn K mainGlobals "match_of" = some (some (.ref f47))) (l47 : K.lookup f47 = some ⟨oc47, od47, .func (PySem.W.fnOf "match_of" "match_of" (defArgs s_match_of) (defBody s_match_of) (defScope s_match_of) .none kV47 dc47 pm47 an47 cd47 ct47), sl47⟩) (c47 : PySem.W.codeIn K cd47 "match_of" = true) (k47 : PySem.W.keepIn K (.ref f47) = true)
    {f48 : Addr} {od48 an48 : Option Addr} {sl48 : Array (Option Value)} {oc48 kV48 dc48 pm48 cd48 ct48 : Value}
    (a48 : PySem.W.nsIn K mainGlobals "results" = some (some (.ref f48))) (l48 : K.lookup f48 = some ⟨oc48, od48, .func (PySem.W.fnOf "results" "results" (defArgs s_results) (defBody s_results) (defScope s_results) .none kV48 dc48 pm48 an48 cd48 ct48), sl48⟩) (c48 : PySem.W.codeIn K cd48 "results" = true) (k48 : PySem.W.keepIn K (.ref f48) = true)
    {f49 : Addr} {od49 an49 : Option Addr} {sl49 : Array (Option Value)} {oc49 kV49 dc49 pm49 cd49 ct49 : Value}
    (a49 : PySem.W.nsIn K mainGlobals "good_wishes" = some (some (.ref f49))) (l49 : K.lookup f49 = some ⟨oc49, od49, .func (PySem.W.fnOf "good_wishes" "good_wishes" (defArgs s_good_wishes) (defBody s_good_wishes) (defScope s_good_wishes) .none kV49 dc49 pm49 an49 cd49 ct49), sl49⟩) (c49 : PySem.W.codeIn K cd49 "good_wishes" = true) (k49 : PySem.W.keepIn K (.ref f49) = true)
    {f50 : Addr} {od50 an50 : Option Addr} {sl50 : Array (Option Value)} {oc50 kV50 dc50 pm50 cd50 ct50 : Value}
    (a50 : PySem.W.nsIn K mainGlobals "need_wishes" = some (some (.ref f50))) (l50 : K.lookup f50 = some ⟨oc50, od50, .func (PySem.W.fnOf "need_wishes" "need_wishes" (defArgs s_need_wishes) (defBody s_need_wishes) (defScope s_need_wishes) .none kV50 dc50 pm50 an50 cd50 ct50), sl50⟩) (c50 : PySem.W.codeIn K cd50 "need_wishes" = true) (k50 : PySem.W.keepIn K (.ref f50) = true)
    {f51 : Addr} {od51 an51 : Option Addr} {sl51 : Array (Option Value)} {oc51 kV51 dc51 pm51 cd51 ct51 : Value}
    (a51 : PySem.W.nsIn K mainGlobals "shorter" = some (some (.ref f51))) (l51 : K.lookup f51 = some ⟨oc51, od51, .func (PySem.W.fnOf "shorter" "shorter" (defArgs s_shorter) (defBody s_shorter) (defScope s_shorter) .none kV51 dc51 pm51 an51 cd51 ct51), sl51⟩) (c51 : PySem.W.codeIn K cd51 "shorter" = true) (k51 : PySem.W.keepIn K (.ref f51) = true)
    {f52 : Addr} {od52 an52 : Option Addr} {sl52 : Array (Option Value)} {oc52 kV52 dc52 pm52 cd52 ct52 : Value}
    (a52 : PySem.W.nsIn K mainGlobals "tight" = some (some (.ref f52))) (l52 : K.lookup f52 = some ⟨oc52, od52, .func (PySem.W.fnOf "tight" "tight" (defArgs s_tight) (defBody s_tight) (defScope s_tight) .none kV52 dc52 pm52 an52 cd52 ct52), sl52⟩) (c52 : PySem.W.codeIn K cd52 "tight" = true) (k52 : PySem.W.keepIn K (.ref f52) = true)
    {f53 : Addr} {od53 an53 : Option Addr} {sl53 : Array (Option Value)} {oc53 kV53 dc53 pm53 cd53 ct53 : Value}
    (a53 : PySem.W.nsIn K mainGlobals "bounds_of" = some (some (.ref f53))) (l53 : K.lookup f53 = some ⟨oc53, od53, .func (PySem.W.fnOf "bounds_of" "bounds_of" (defArgs s_bounds_of) (defBody s_bounds_of) (defScope s_bounds_of) .none kV53 dc53 pm53 an53 cd53 ct53), sl53⟩) (c53 : PySem.W.codeIn K cd53 "bounds_of" = true) (k53 : PySem.W.keepIn K (.ref f53) = true)
    {f54 : Addr} {od54 an54 : Option Addr} {sl54 : Array (Option Value)} {oc54 kV54 dc54 pm54 cd54 ct54 : Value}
    (a54 : PySem.W.nsIn K mainGlobals "table_of" = some (some (.ref f54))) (l54 : K.lookup f54 = some ⟨oc54, od54, .func (PySem.W.fnOf "table_of" "table_of" (defArgs s_table_of) (defBody s_table_of) (defScope s_table_of) .none kV54 dc54 pm54 an54 cd54 ct54), sl54⟩) (c54 : PySem.W.codeIn K cd54 "table_of" = true) (k54 : PySem.W.keepIn K (.ref f54) = true)
    {f55 : Addr} {od55 an55 : Option Addr} {sl55 : Array (Option Value)} {oc55 kV55 dc55 pm55 cd55 ct55 : Value}
    (a55 : PySem.W.nsIn K mainGlobals "need_table" = some (some (.ref f55))) (l55 : K.lookup f55 = some ⟨oc55, od55, .func (PySem.W.fnOf "need_table" "need_table" (defArgs s_need_table) (defBody s_need_table) (defScope s_need_table) .none kV55 dc55 pm55 an55 cd55 ct55), sl55⟩) (c55 : PySem.W.codeIn K cd55 "need_table" = true) (k55 : PySem.W.keepIn K (.ref f55) = true)
    {f56 : Addr} {od56 an56 : Option Addr} {sl56 : Array (Option Value)} {oc56 kV56 dc56 pm56 cd56 ct56 : Value}
    (a56 : PySem.W.nsIn K mainGlobals "least_handicaps" = some (some (.ref f56))) (l56 : K.lookup f56 = some ⟨oc56, od56, .func (PySem.W.fnOf "least_handicaps" "least_handicaps" (defArgs s_least_handicaps) (defBody s_least_handicaps) (defScope s_least_handicaps) .none kV56 dc56 pm56 an56 cd56 ct56), sl56⟩) (c56 : PySem.W.codeIn K cd56 "least_handicaps" = true) (k56 : PySem.W.keepIn K (.ref f56) = true)
    {f57 : Addr} {od57 an57 : Option Addr} {sl57 : Array (Option Value)} {oc57 kV57 dc57 pm57 cd57 ct57 : Value}
    (a57 : PySem.W.nsIn K mainGlobals "can_come" = some (some (.ref f57))) (l57 : K.lookup f57 = some ⟨oc57, od57, .func (PySem.W.fnOf "can_come" "can_come" (defArgs s_can_come) (defBody s_can_come) (defScope s_can_come) .none kV57 dc57 pm57 an57 cd57 ct57), sl57⟩) (c57 : PySem.W.codeIn K cd57 "can_come" = true) (k57 : PySem.W.keepIn K (.ref f57) = true)
    {f58 : Addr} {od58 an58 : Option Addr} {sl58 : Array (Option Value)} {oc58 kV58 dc58 pm58 cd58 ct58 : Value}
    (a58 : PySem.W.nsIn K mainGlobals "need_player" = some (some (.ref f58))) (l58 : K.lookup f58 = some ⟨oc58, od58, .func (PySem.W.fnOf "need_player" "need_player" (defArgs s_need_player) (defBody s_need_player) (defScope s_need_player) .none kV58 dc58 pm58 an58 cd58 ct58), sl58⟩) (c58 : PySem.W.codeIn K cd58 "need_player" = true) (k58 : PySem.W.keepIn K (.ref f58) = true)
    {f59 : Addr} {od59 an59 : Option Addr} {sl59 : Array (Option Value)} {oc59 kV59 dc59 pm59 cd59 ct59 : Value}
    (a59 : PySem.W.nsIn K mainGlobals "difference_range" = some (some (.ref f59))) (l59 : K.lookup f59 = some ⟨oc59, od59, .func (PySem.W.fnOf "difference_range" "difference_range" (defArgs s_difference_range) (defBody s_difference_range) (defScope s_difference_range) .none kV59 dc59 pm59 an59 cd59 ct59), sl59⟩) (c59 : PySem.W.codeIn K cd59 "difference_range" = true) (k59 : PySem.W.keepIn K (.ref f59) = true)
    {f60 : Addr} {od60 an60 : Option Addr} {sl60 : Array (Option Value)} {oc60 kV60 dc60 pm60 cd60 ct60 : Value}
    (a60 : PySem.W.nsIn K mainGlobals "shortest_ring" = some (some (.ref f60))) (l60 : K.lookup f60 = some ⟨oc60, od60, .func (PySem.W.fnOf "shortest_ring" "shortest_ring" (defArgs s_shortest_ring) (defBody s_shortest_ring) (defScope s_shortest_ring) .none kV60 dc60 pm60 an60 cd60 ct60), sl60⟩) (c60 : PySem.W.codeIn K cd60 "shortest_ring" = true) (k60 : PySem.W.keepIn K (.ref f60) = true)
    {f61 : Addr} {od61 an61 : Option Addr} {sl61 : Array (Option Value)} {oc61 kV61 dc61 pm61 cd61 ct61 : Value}
    (a61 : PySem.W.nsIn K mainGlobals "clash" = some (some (.ref f61))) (l61 : K.lookup f61 = some ⟨oc61, od61, .func (PySem.W.fnOf "clash" "clash" (defArgs s_clash) (defBody s_clash) (defScope s_clash) .none kV61 dc61 pm61 an61 cd61 ct61), sl61⟩) (c61 : PySem.W.codeIn K cd61 "clash" = true) (k61 : PySem.W.keepIn K (.ref f61) = true)
    {f62 : Addr} {od62 an62 : Option Addr} {sl62 : Array (Option Value)} {oc62 kV62 dc62 pm62 cd62 ct62 : Value}
    (a62 : PySem.W.nsIn K mainGlobals "_law_three_right" = some (some (.ref f62))) (l62 : K.lookup f62 = some ⟨oc62, od62, .func (PySem.W.fnOf "_law_three_right" "_law_three_right" (defArgs s__law_three_right) (defBody s__law_three_right) (defScope s__law_three_right) .none kV62 dc62 pm62 an62 cd62 ct62), sl62⟩) (c62 : PySem.W.codeIn K cd62 "_law_three_right" = true) (k62 : PySem.W.keepIn K (.ref f62) = true)
    {f63 : Addr} {od63 an63 : Option Addr} {sl63 : Array (Option Value)} {oc63 kV63 dc63 pm63 cd63 ct63 : Value}
    (a63 : PySem.W.nsIn K mainGlobals "law" = some (some (.ref f63))) (l63 : K.lookup f63 = some ⟨oc63, od63, .func (PySem.W.fnOf "law" "law" (defArgs s_law) (defBody s_law) (defScope s_law) .none kV63 dc63 pm63 an63 cd63 ct63), sl63⟩) (c63 : PySem.W.codeIn K cd63 "law" = true) (k63 : PySem.W.keepIn K (.ref f63) = true)
    {u_HIGHEST : Tok} (i_HIGHEST : PySem.W.nsIn K mainGlobals "HIGHEST" = some (some (.int 15 u_HIGHEST)))
    {u_MOST_HANDICAP : Tok} (i_MOST_HANDICAP : PySem.W.nsIn K mainGlobals "MOST_HANDICAP" = some (some (.int 1000 u_MOST_HANDICAP)))
    {u_MOST_HOLES : Tok} (i_MOST_HOLES : PySem.W.nsIn K mainGlobals "MOST_HOLES" = some (some (.int 18 u_MOST_HOLES)))
    {u_MOST_PLAYERS : Tok} (i_MOST_PLAYERS : PySem.W.nsIn K mainGlobals "MOST_PLAYERS" = some (some (.int 8 u_MOST_PLAYERS)))
    {u_MOST_STROKES : Tok} (i_MOST_STROKES : PySem.W.nsIn K mainGlobals "MOST_STROKES" = some (some (.int 1000 u_MOST_STROKES)))
    (z_abs : PySem.W.nsIn K mainGlobals "abs" = some none)
    (z_all : PySem.W.nsIn K mainGlobals "all" = some none)
    (z_bool : PySem.W.nsIn K mainGlobals "bool" = some none)
    (z_dict : PySem.W.nsIn K mainGlobals "dict" = some none)
    (z_enumerate : PySem.W.nsIn K mainGlobals "enumerate" = some none)
    (z_int : PySem.W.nsIn K mainGlobals "int" = some none)
    (z_isinstance : PySem.W.nsIn K mainGlobals "isinstance" = some none)
    (z_len : PySem.W.nsIn K mainGlobals "len" = some none)
    (z_max : PySem.W.nsIn K mainGlobals "max" = some none)
    (z_min : PySem.W.nsIn K mainGlobals "min" = some none)
    (z_range : PySem.W.nsIn K mainGlobals "range" = some none)
    (z_set : PySem.W.nsIn K mainGlobals "set" = some none)
    (z_sorted : PySem.W.nsIn K mainGlobals "sorted" = some none)
    (z_sum : PySem.W.nsIn K mainGlobals "sum" = some none)
    (z_tuple : PySem.W.nsIn K mainGlobals "tuple" = some none)
    (z_zip : PySem.W.nsIn K mainGlobals "zip" = some none)
    : ∃ fd : FuncData, (∀ (s : Shared) (v : Value), BindsTo s fd ⟨[v], []⟩ [("_law_script", v)]) ∧ ∀ base : Heap, K.In base → base.Ns mainGlobals mg → FnOk l.prog w K mg base (L2.CX l.prog w) 8 fa fd ["_law_script"] (spD K T0 1 φ_law) := by
  have e := hfa.symm.trans (PySem.W.mg_of X G a63)
  cases e
  have F0 := fun_mk (st := s_is_from) l0 c0 k0
  have b0 := F0.binds (ps := ["value", "low", "high"]) fun _ _ _ _ _ _ us hl => match us, hl with | [_, _, _], _ => rfl
  have F1 := fun_mk (st := s_good_index) l1 c1 k1
  have b1 := F1.binds (ps := ["count", "value"]) fun _ _ _ _ _ _ us hl => match us, hl with | [_, _], _ => rfl
  have F2 := fun_mk (st := s_good_scores) l2 c2 k2
  have b2 := F2.binds (ps := ["value"]) fun _ _ _ _ _ _ us hl => match us, hl with | [_], _ => rfl
  have F3 := fun_mk (st := s_is_match) l3 c3 k3
  have b3 := F3.binds (ps := ["value"]) fun _ _ _ _ _ _ us hl => match us, hl with | [_], _ => rfl
  have F4 := fun_mk (st := s_need_match) l4 c4 k4
  have b4 := F4.binds (ps := ["match"]) fun _ _ _ _ _ _ us hl => match us, hl with | [_], _ => rfl
  have F5 := fun_mk (st := s_need_strokes) l5 c5 k5
  have b5 := F5.binds (ps := ["strokes"]) fun _ _ _ _ _ _ us hl => match us, hl with | [_], _ => rfl
  have F6 := fun_mk (st := s_end_of) l6 c6 k6
  have b6 := F6.binds (ps := ["rows"]) fun _ _ _ _ _ _ us hl => match us, hl with | [_], _ => rfl
  have F7 := fun_mk (st := s_sign) l7 c7 k7
  have b7 := F7.binds (ps := ["number"]) fun _ _ _ _ _ _ us hl => match us, hl with | [_], _ => rfl
  have F8 := fun_mk (st := s_at_hole) l8 c8 k8
  have b8 := F8.binds (ps := ["count", "place", "strokes"]) fun _ _ _ _ _ _ us hl => match us, hl with | [_, _, _], _ => rfl
  have F9 := fun_mk (st := s_holes_of) l9 c9 k9
  have b9 := F9.binds (ps := ["match", "strokes"]) fun _ _ _ _ _ _ us hl => match us, hl with | [_, _], _ => rfl
  have F10 := fun_mk (st := s_leads_of) l10 c10 k10
  have b10 := F10.binds (ps := ["match", "strokes"]) fun _ _ _ _ _ _ us hl => match us, hl with | [_, _], _ => rfl
  have F11 := fun_mk (st := s_word_for) l11 c11 k11
  have b11 := F11.binds (ps := ["count", "played", "lead"]) fun _ _ _ _ _ _ us hl => match us, hl with | [_, _, _], _ => rfl
  have F12 := fun_mk (st := s_ending) l12 c12 k12
  have b12 := F12.binds (ps := ["match", "strokes"]) fun _ _ _ _ _ _ us hl => match us, hl with | [_, _], _ => rfl
  have F13 := fun_mk (st := s__law_pick) l13 c13 k13
  have b13 := F13.binds (ps := ["_law_deck_here", "_law_limit"]) fun _ _ _ _ _ _ us hl => match us, hl with | [_, _], _ => rfl
  have F14 := fun_mk (st := s__law_deck) l14 c14 k14
  have b14 := F14.binds (ps := ["_law_cell", "_law_turn"]) fun _ _ _ _ _ _ us hl => match us, hl with | [_, _], _ => rfl
  have F15 := fun_mk (st := s_step) l15 c15 k15
  have b15 := F15.binds (ps := ["count", "place", "strokes"]) fun _ _ _ _ _ _ us hl => match us, hl with | [_, _, _], _ => rfl
  have F16 := fun_mk (st := s_differences_of) l16 c16 k16
  have b16 := F16.binds (ps := ["value"]) fun _ _ _ _ _ _ us hl => match us, hl with | [_], _ => rfl
  have F17 := fun_mk (st := s_is_stairs) l17 c17 k17
  have b17 := F17.binds (ps := ["value"]) fun _ _ _ _ _ _ us hl => match us, hl with | [_], _ => rfl
  have F18 := fun_mk (st := s_strokes_at) l18 c18 k18
  have b18 := F18.binds (ps := ["match", "strokes"]) fun _ _ _ _ _ _ us hl => match us, hl with | [_, _], _ => rfl
  have F19 := fun_mk (st := s_stairs_of) l19 c19 k19
  have b19 := F19.binds (ps := ["match"]) fun _ _ _ _ _ _ us hl => match us, hl with | [_], _ => rfl
  have F20 := fun_mk (st := s_stairs) l20 c20 k20
  have b20 := F20.binds (ps := ["match"]) fun _ _ _ _ _ _ us hl => match us, hl with | [_], _ => rfl
  have F21 := fun_mk (st := s_range_for) l21 c21 k21
  have b21 := F21.binds (ps := ["rows", "wished"]) fun _ _ _ _ _ _ us hl => match us, hl with | [_, _], _ => rfl
  have F22 := fun_mk (st := s_halved) l22 c22 k22
  have b22 := F22.binds (ps := ["match"]) fun _ _ _ _ _ _ us hl => match us, hl with | [_], _ => rfl
  have F23 := fun_mk (st := s_strokes_for) l23 c23 k23
  have b23 := F23.binds (ps := ["match", "wished"]) fun _ _ _ _ _ _ us hl => match us, hl with | [_, _], _ => rfl
  have F24 := fun_mk (st := s_differences) l24 c24 k24
  have b24 := F24.binds (ps := ["value"]) fun _ _ _ _ _ _ us hl => match us, hl with | [_], _ => rfl
  have F25 := fun_mk (st := s_result) l25 c25 k25
  have b25 := F25.binds (ps := ["match", "strokes"]) fun _ _ _ _ _ _ us hl => match us, hl with | [_, _], _ => rfl
  have F26 := fun_mk (st := s_hole_results) l26 c26 k26
  have b26 := F26.binds (ps := ["match", "strokes"]) fun _ _ _ _ _ _ us hl => match us, hl with | [_, _], _ => rfl
  have F27 := fun_mk (st := s_holes_played) l27 c27 k27
  have b27 := F27.binds (ps := ["match", "strokes"]) fun _ _ _ _ _ _ us hl => match us, hl with | [_, _], _ => rfl
  have F28 := fun_mk (st := s_need_scores) l28 c28 k28
  have b28 := F28.binds (ps := ["first", "second"]) fun _ _ _ _ _ _ us hl => match us, hl with | [_, _], _ => rfl
  have F29 := fun_mk (st := s_need_few) l29 c29 k29
  have b29 := F29.binds (ps := ["count", "strokes"]) fun _ _ _ _ _ _ us hl => match us, hl with | [_, _], _ => rfl
  have F30 := fun_mk (st := s_ground) l30 c30 k30
  have b30 := F30.binds (ps := ["first", "second"]) fun _ _ _ _ _ _ us hl => match us, hl with | [_, _], _ => rfl
  have F31 := fun_mk (st := s_factorial) l31 c31 k31
  have b31 := F31.binds (ps := ["many"]) fun _ _ _ _ _ _ us hl => match us, hl with | [_], _ => rfl
  have F32 := fun_mk (st := s_choose) l32 c32 k32
  have b32 := F32.binds (ps := ["many", "few"]) fun _ _ _ _ _ _ us hl => match us, hl with | [_, _], _ => rfl
  have F33 := fun_mk (st := s_ways) l33 c33 k33
  have b33 := F33.binds (ps := ["first", "second", "seen"]) fun _ _ _ _ _ _ us hl => match us, hl with | [_, _, _], _ => rfl
  have F34 := fun_mk (st := s_count_orders) l34 c34 k34
  have b34 := F34.binds (ps := ["first", "second", "strokes", "wished"]) fun _ _ _ _ _ _ us hl => match us, hl with | [_, _, _, _], _ => rfl
  have F35 := fun_mk (st := s_need_seen) l35 c35 k35
  have b35 := F35.binds (ps := ["count", "seen"]) fun _ _ _ _ _ _ us hl => match us, hl with | [_, _], _ => rfl
  have F36 := fun_mk (st := s_with_more) l36 c36 k36
  have b36 := F36.binds (ps := ["seen", "strokes", "wished"]) fun _ _ _ _ _ _ us hl => match us, hl with | [_, _, _], _ => rfl
  have F37 := fun_mk (st := s_possible_results) l37 c37 k37
  have b37 := F37.binds (ps := ["first", "second", "seen", "strokes"]) fun _ _ _ _ _ _ us hl => match us, hl with | [_, _, _, _], _ => rfl
  have F38 := fun_mk (st := s_count_indexes) l38 c38 k38
  have b38 := F38.binds (ps := ["first", "second", "seen"]) fun _ _ _ _ _ _ us hl => match us, hl with | [_, _, _], _ => rfl
  have F39 := fun_mk (st := s_prices) l39 c39 k39
  have b39 := F39.binds (ps := ["match", "strokes"]) fun _ _ _ _ _ _ us hl => match us, hl with | [_, _], _ => rfl
  have F40 := fun_mk (st := s_cheapest) l40 c40 k40
  have b40 := F40.binds (ps := ["match", "strokes"]) fun _ _ _ _ _ _ us hl => match us, hl with | [_, _], _ => rfl
  have F41 := fun_mk (st := s_best_saving) l41 c41 k41
  have b41 := F41.binds (ps := ["match", "strokes", "wished"]) fun _ _ _ _ _ _ us hl => match us, hl with | [_, _, _], _ => rfl
  have F42 := fun_mk (st := s_fewest_saved) l42 c42 k42
  have b42 := F42.binds (ps := ["match", "strokes", "wished"]) fun _ _ _ _ _ _ us hl => match us, hl with | [_, _, _], _ => rfl
  have F43 := fun_mk (st := s__law_four_right) l43 c43 k43
  have b43 := F43.binds (ps := ["_law_t"]) fun _ _ _ _ _ _ us hl => match us, hl with | [_], _ => rfl
  have F44 := fun_mk (st := s_is_group) l44 c44 k44
  have b44 := F44.binds (ps := ["value"]) fun _ _ _ _ _ _ us hl => match us, hl with | [_], _ => rfl
  have F45 := fun_mk (st := s_all_halved) l45 c45 k45
  have b45 := F45.binds (ps := ["group"]) fun _ _ _ _ _ _ us hl => match us, hl with | [_], _ => rfl
  have F46 := fun_mk (st := s_good_handicaps) l46 c46 k46
  have b46 := F46.binds (ps := ["group", "value"]) fun _ _ _ _ _ _ us hl => match us, hl with | [_, _], _ => rfl
  have F47 := fun_mk (st := s_match_of) l47 c47 k47
  have b47 := F47.binds (ps := ["group", "one", "other"]) fun _ _ _ _ _ _ us hl => match us, hl with | [_, _, _], _ => rfl
  have F48 := fun_mk (st := s_results) l48 c48 k48
  have b48 := F48.binds (ps := ["group", "handicaps"]) fun _ _ _ _ _ _ us hl => match us, hl with | [_, _], _ => rfl
  have F49 := fun_mk (st := s_good_wishes) l49 c49 k49
  have b49 := F49.binds (ps := ["group", "value"]) fun _ _ _ _ _ _ us hl => match us, hl with | [_, _], _ => rfl
  have F50 := fun_mk (st := s_need_wishes) l50 c50 k50
  have b50 := F50.binds (ps := ["group", "wishes"]) fun _ _ _ _ _ _ us hl => match us, hl with | [_, _], _ => rfl
  have F51 := fun_mk (st := s_shorter) l51 c51 k51
  have b51 := F51.binds (ps := ["one", "other"]) fun _ _ _ _ _ _ us hl => match us, hl with | [_, _], _ => rfl
  have F52 := fun_mk (st := s_tight) l52 c52 k52
  have b52 := F52.binds (ps := ["count", "rows"]) fun _ _ _ _ _ _ us hl => match us, hl with | [_, _], _ => rfl
  have F53 := fun_mk (st := s_bounds_of) l53 c53 k53
  have b53 := F53.binds (ps := ["group", "wishes"]) fun _ _ _ _ _ _ us hl => match us, hl with | [_, _], _ => rfl
  have F54 := fun_mk (st := s_table_of) l54 c54 k54
  have b54 := F54.binds (ps := ["group", "wishes"]) fun _ _ _ _ _ _ us hl => match us, hl with | [_, _], _ => rfl
  have F55 := fun_mk (st := s_need_table) l55 c55 k55
  have b55 := F55.binds (ps := ["group", "wishes"]) fun _ _ _ _ _ _ us hl => match us, hl with | [_, _], _ => rfl
  have F56 := fun_mk (st := s_least_handicaps) l56 c56 k56
  have b56 := F56.binds (ps := ["group", "wishes"]) fun _ _ _ _ _ _ us hl => match us, hl with | [_, _], _ => rfl
  have F57 := fun_mk (st := s_can_come) l57 c57 k57
  have b57 := F57.binds (ps := ["group", "wishes"]) fun _ _ _ _ _ _ us hl => match us, hl with | [_, _], _ => rfl
  have F58 := fun_mk (st := s_need_player) l58 c58 k58
  have b58 := F58.binds (ps := ["group", "player"]) fun _ _ _ _ _ _ us hl => match us, hl with | [_, _], _ => rfl
  have F59 := fun_mk (st := s_difference_range) l59 c59 k59
  have b59 := F59.binds (ps := ["group", "wishes", "one", "other"]) fun _ _ _ _ _ _ us hl => match us, hl with | [_, _, _, _], _ => rfl
  have F60 := fun_mk (st := s_shortest_ring) l60 c60 k60
  have b60 := F60.binds (ps := ["count", "rows"]) fun _ _ _ _ _ _ us hl => match us, hl with | [_, _], _ => rfl
  have F61 := fun_mk (st := s_clash) l61 c61 k61
  have b61 := F61.binds (ps := ["group", "wishes"]) fun _ _ _ _ _ _ us hl => match us, hl with | [_, _], _ => rfl
  have F62 := fun_mk (st := s__law_three_right) l62 c62 k62
  have b62 := F62.binds (ps := ["_law_t"]) fun _ _ _ _ _ _ us hl => match us, hl with | [_], _ => rfl
  have F63 := fun_mk (st := s_law) l63 c63 k63
  have b63 := F63.binds (ps := ["_law_script"]) fun _ _ _ _ _ _ us hl => match us, hl with | [_], _ => rfl
  let M : Md K mg := {
    f_is_from := f0, d_is_from := _, F_is_from := F0, b_is_from := b0, g_is_from := PySem.W.mg_of X G a0,
    f_good_index := f1, d_good_index := _, F_good_index := F1, b_good_index := b1, g_good_index := PySem.W.mg_of X G a1,
    f_good_scores := f2, d_good_scores := _, F_good_scores := F2, b_good_scores := b2, g_good_scores := PySem.W.mg_of X G a2,
    f_is_match := f3, d_is_match := _, F_is_match := F3, b_is_match := b3, g_is_match := PySem.W.mg_of X G a3,
    f_need_match := f4, d_need_match := _, F_need_match := F4, b_need_match := b4, g_need_match := PySem.W.mg_of X G a4,
    f_need_strokes := f5, d_need_strokes := _, F_need_strokes := F5, b_need_strokes := b5, g_need_strokes := PySem.W.mg_of X G a5,
    f_end_of := f6, d_end_of := _, F_end_of := F6, b_end_of := b6, g_end_of := PySem.W.mg_of X G a6,
    f_sign := f7, d_sign := _, F_sign := F7, b_sign := b7, g_sign := PySem.W.mg_of X G a7,
    f_at_hole := f8, d_at_hole := _, F_at_hole := F8, b_at_hole := b8, g_at_hole := PySem.W.mg_of X G a8,
    f_holes_of := f9, d_holes_of := _, F_holes_of := F9, b_holes_of := b9, g_holes_of := PySem.W.mg_of X G a9,
    f_leads_of := f10, d_leads_of := _, F_leads_of := F10, b_leads_of := b10, g_leads_of := PySem.W.mg_of X G a10,
    f_word_for := f11, d_word_for := _, F_word_for := F11, b_word_for := b11, g_word_for := PySem.W.mg_of X G a11,
    f_ending := f12, d_ending := _, F_ending := F12, b_ending := b12, g_ending := PySem.W.mg_of X G a12,
    f__law_pick := f13, d__law_pick := _, F__law_pick := F13, b__law_pick := b13, g__law_pick := PySem.W.mg_of X G a13,
    f__law_deck := f14, d__law_deck := _, F__law_deck := F14, b__law_deck := b14, g__law_deck := PySem.W.mg_of X G a14,
    f_step := f15, d_step := _, F_step := F15, b_step := b15, g_step := PySem.W.mg_of X G a15,
    f_differences_of := f16, d_differences_of := _, F_differences_of := F16, b_differences_of := b16, g_differences_of := PySem.W.mg_of X G a16,
    f_is_stairs := f17, d_is_stairs := _, F_is_stairs := F17, b_is_stairs := b17, g_is_stairs := PySem.W.mg_of X G a17,
    f_strokes_at := f18, d_strokes_at := _, F_strokes_at := F18, b_strokes_at := b18, g_strokes_at := PySem.W.mg_of X G a18,
    f_stairs_of := f19, d_stairs_of := _, F_stairs_of := F19, b_stairs_of := b19, g_stairs_of := PySem.W.mg_of X G a19,
    f_stairs := f20, d_stairs := _, F_stairs := F20, b_stairs := b20, g_stairs := PySem.W.mg_of X G a20,
    f_range_for := f21, d_range_for := _, F_range_for := F21, b_range_for := b21, g_range_for := PySem.W.mg_of X G a21,
    f_halved := f22, d_halved := _, F_halved := F22, b_halved := b22, g_halved := PySem.W.mg_of X G a22,
    f_strokes_for := f23, d_strokes_for := _, F_strokes_for := F23, b_strokes_for := b23, g_strokes_for := PySem.W.mg_of X G a23,
    f_differences := f24, d_differences := _, F_differences := F24, b_differences := b24, g_differences := PySem.W.mg_of X G a24,
    f_result := f25, d_result := _, F_result := F25, b_result := b25, g_result := PySem.W.mg_of X G a25,
    f_hole_results := f26, d_hole_results := _, F_hole_results := F26, b_hole_results := b26, g_hole_results := PySem.W.mg_of X G a26,
    f_holes_played := f27, d_holes_played := _, F_holes_played := F27, b_holes_played := b27, g_holes_played := PySem.W.mg_of X G a27,
    f_need_scores := f28, d_need_scores := _, F_need_scores := F28, b_need_scores := b28, g_need_scores := PySem.W.mg_of X G a28,
    f_need_few := f29, d_need_few := _, F_need_few := F29, b_need_few := b29, g_need_few := PySem.W.mg_of X G a29,
    f_ground := f30, d_ground := _, F_ground := F30, b_ground := b30, g_ground := PySem.W.mg_of X G a30,
    f_factorial := f31, d_factorial := _, F_factorial := F31, b_factorial := b31, g_factorial := PySem.W.mg_of X G a31,
    f_choose := f32, d_choose := _, F_choose := F32, b_choose := b32, g_choose := PySem.W.mg_of X G a32,
    f_ways := f33, d_ways := _, F_ways := F33, b_ways := b33, g_ways := PySem.W.mg_of X G a33,
    f_count_orders := f34, d_count_orders := _, F_count_orders := F34, b_count_orders := b34, g_count_orders := PySem.W.mg_of X G a34,
    f_need_seen := f35, d_need_seen := _, F_need_seen := F35, b_need_seen := b35, g_need_seen := PySem.W.mg_of X G a35,
    f_with_more := f36, d_with_more := _, F_with_more := F36, b_with_more := b36, g_with_more := PySem.W.mg_of X G a36,
    f_possible_results := f37, d_possible_results := _, F_possible_results := F37, b_possible_results := b37, g_possible_results := PySem.W.mg_of X G a37,
    f_count_indexes := f38, d_count_indexes := _, F_count_indexes := F38, b_count_indexes := b38, g_count_indexes := PySem.W.mg_of X G a38,
    f_prices := f39, d_prices := _, F_prices := F39, b_prices := b39, g_prices := PySem.W.mg_of X G a39,
    f_cheapest := f40, d_cheapest := _, F_cheapest := F40, b_cheapest := b40, g_cheapest := PySem.W.mg_of X G a40,
    f_best_saving := f41, d_best_saving := _, F_best_saving := F41, b_best_saving := b41, g_best_saving := PySem.W.mg_of X G a41,
    f_fewest_saved := f42, d_fewest_saved := _, F_fewest_saved := F42, b_fewest_saved := b42, g_fewest_saved := PySem.W.mg_of X G a42,
    f__law_four_right := f43, d__law_four_right := _, F__law_four_right := F43, b__law_four_right := b43, g__law_four_right := PySem.W.mg_of X G a43,
    f_is_group := f44, d_is_group := _, F_is_group := F44, b_is_group := b44, g_is_group := PySem.W.mg_of X G a44,
    f_all_halved := f45, d_all_halved := _, F_all_halved := F45, b_all_halved := b45, g_all_halved := PySem.W.mg_of X G a45,
    f_good_handicaps := f46, d_good_handicaps := _, F_good_handicaps := F46, b_good_handicaps := b46, g_good_handicaps := PySem.W.mg_of X G a46,
    f_match_of := f47, d_match_of := _, F_match_of := F47, b_match_of := b47, g_match_of := PySem.W.mg_of X G a47,
    f_results := f48, d_results := _, F_results := F48, b_results := b48, g_results := PySem.W.mg_of X G a48,
    f_good_wishes := f49, d_good_wishes := _, F_good_wishes := F49, b_good_wishes := b49, g_good_wishes := PySem.W.mg_of X G a49,
    f_need_wishes := f50, d_need_wishes := _, F_need_wishes := F50, b_need_wishes := b50, g_need_wishes := PySem.W.mg_of X G a50,
    f_shorter := f51, d_shorter := _, F_shorter := F51, b_shorter := b51, g_shorter := PySem.W.mg_of X G a51,
    f_tight := f52, d_tight := _, F_tight := F52, b_tight := b52, g_tight := PySem.W.mg_of X G a52,
    f_bounds_of := f53, d_bounds_of := _, F_bounds_of := F53, b_bounds_of := b53, g_bounds_of := PySem.W.mg_of X G a53,
    f_table_of := f54, d_table_of := _, F_table_of := F54, b_table_of := b54, g_table_of := PySem.W.mg_of X G a54,
    f_need_table := f55, d_need_table := _, F_need_table := F55, b_need_table := b55, g_need_table := PySem.W.mg_of X G a55,
    f_least_handicaps := f56, d_least_handicaps := _, F_least_handicaps := F56, b_least_handicaps := b56, g_least_handicaps := PySem.W.mg_of X G a56,
    f_can_come := f57, d_can_come := _, F_can_come := F57, b_can_come := b57, g_can_come := PySem.W.mg_of X G a57,
    f_need_player := f58, d_need_player := _, F_need_player := F58, b_need_player := b58, g_need_player := PySem.W.mg_of X G a58,
    f_difference_range := f59, d_difference_range := _, F_difference_range := F59, b_difference_range := b59, g_difference_range := PySem.W.mg_of X G a59,
    f_shortest_ring := f60, d_shortest_ring := _, F_shortest_ring := F60, b_shortest_ring := b60, g_shortest_ring := PySem.W.mg_of X G a60,
    f_clash := f61, d_clash := _, F_clash := F61, b_clash := b61, g_clash := PySem.W.mg_of X G a61,
    f__law_three_right := f62, d__law_three_right := _, F__law_three_right := F62, b__law_three_right := b62, g__law_three_right := PySem.W.mg_of X G a62,
    f_law := fa, d_law := _, F_law := F63, b_law := b63, g_law := PySem.W.mg_of X G a63,
    t_HIGHEST := u_HIGHEST, c_HIGHEST := PySem.W.mg_of X G i_HIGHEST,
    t_MOST_HANDICAP := u_MOST_HANDICAP, c_MOST_HANDICAP := PySem.W.mg_of X G i_MOST_HANDICAP,
    t_MOST_HOLES := u_MOST_HOLES, c_MOST_HOLES := PySem.W.mg_of X G i_MOST_HOLES,
    t_MOST_PLAYERS := u_MOST_PLAYERS, c_MOST_PLAYERS := PySem.W.mg_of X G i_MOST_PLAYERS,
    t_MOST_STROKES := u_MOST_STROKES, c_MOST_STROKES := PySem.W.mg_of X G i_MOST_STROKES,
    n_abs := PySem.W.mg_none_of X G z_abs,
    n_all := PySem.W.mg_none_of X G z_all,
    n_bool := PySem.W.mg_none_of X G z_bool,
    n_dict := PySem.W.mg_none_of X G z_dict,
    n_enumerate := PySem.W.mg_none_of X G z_enumerate,
    n_int := PySem.W.mg_none_of X G z_int,
    n_isinstance := PySem.W.mg_none_of X G z_isinstance,
    n_len := PySem.W.mg_none_of X G z_len,
    n_max := PySem.W.mg_none_of X G z_max,
    n_min := PySem.W.mg_none_of X G z_min,
    n_range := PySem.W.mg_none_of X G z_range,
    n_set := PySem.W.mg_none_of X G z_set,
    n_sorted := PySem.W.mg_none_of X G z_sorted,
    n_sum := PySem.W.mg_none_of X G z_sum,
    n_tuple := PySem.W.mg_none_of X G z_tuple,
    n_zip := PySem.W.mg_none_of X G z_zip
  }
  exact ⟨_, fun s v => .of_eq rfl, fun base _ _ => ok_law M⟩
theorem walk {l : PySem.W.OpenLaw} {q : Program} {loose : List Str} {XP : (Str → Option Value) → Heap → Prop} {YP : World → Heap → Prop} {d : DefRec} {K : Params → PySem.W.Frag} (hn : l.most = some 63) (hdf : d.params.defaults = [])
    (hY : ∀ (w : World) (h : Heap), YP w h → (K w.params).In h)
    (F : ∀ (w : World) (mg : Str → Option Value) (fa : Addr) (h : Heap), (K w.params).In h → h.Ns mainGlobals mg → mg d.name = some (.ref fa) →
      ∃ fd : FuncData, (∀ (s : Shared) (u : Value), BindsTo s fd ⟨[u], []⟩ [("_law_script", u)]) ∧ ∀ base : Heap, (K w.params).In base → base.Ns mainGlobals mg → FnOk l.prog w (K w.params) mg base (L2.CX l.prog w) 8 fa fd ["_law_script"] (spD (K w.params) T0 1 φ_law)) :
    PySem.W.WalkO q loose XP YP l.row.toRowW d [] (fun f vs => PySem.call f vs) :=
  L2.walk_of (n := 63) (k := 8) (x := "_law_script") (CX := fun w => L2.CX l.prog w) (sp := fun w => spD (K w.params) T0 1 φ_law) hn (by decide) hdf ⟨rfl, by decide, by decide⟩ hY F (fun _ _ a ns hl _ hS => sp_law hS (law_true ns hl)) fun _ _ _ _ _ ⟨_, _, _, _, _, _, _, _, _, _, _, _, z⟩ => z
end K21
open PySem PySem.W PyProof.Rows in
set_option maxRecDepth 100000 in
set_option maxHeartbeats 0 in
theorem PySem.Challenge.cw_strokeholes_k21_whole_written_matches_holds : PySem.Challenge.rw_strokeholes_k21_whole_written_matches.Holds := by
  w_on; o_law; k_head; (case hw => w_witness2)
  k_fill
  refine K21.walk (l := PySem.Challenge.rw_strokeholes_k21_whole_written_matches) rfl rfl (fun w h Y => PySem.W.kIn_of Y) ?F
  case F =>
    intro w mg fa h KX G hmg
    refine' K21.all_mk KX G hmg ?a0 ?l0 ?c0 ?k0 ?a1 ?l1 ?c1 ?k1 ?a2 ?l2 ?c2 ?k2 ?a3 ?l3 ?c3 ?k3 ?a4 ?l4 ?c4 ?k4 ?a5 ?l5 ?c5 ?k5 ?a6 ?l6 ?c6 ?k6 ?a7 ?l7 ?c7 ?k7 ?a8 ?l8 ?c8 ?k8 ?a9 ?l9 ?c9 ?k9 ?a10 ?l10 ?c10 ?k10 ?a11 ?l11 ?c11 ?k11 ?a12 ?l12 ?c12 ?k12 ?a13 ?l13 ?c13 ?k13 ?a14 ?l14 ?c14 ?k14 ?a15 ?l15 ?c15 ?k15 ?a16 ?l16 ?c16 ?k16 ?a17 ?l17 ?c17 ?k17 ?a18 ?l18 ?c18 ?k18 ?a19 ?l19 ?c19 ?k19 ?a20 ?l20 ?c20 ?k20 ?a21 ?l21 ?c21 ?k21 ?a22 ?l22 ?c22 ?k22 ?a23 ?l23 ?c23 ?k23 ?a24 ?l24 ?c24 ?k24 ?a25 ?l25 ?c25 ?k25 ?a26 ?l26 ?c26 ?k26 ?a27 ?l27 ?c27 ?k27 ?a28 ?l28 ?c28 ?k28 ?a29 ?l29 ?c29 ?k29 ?a30 ?l30 ?c30 ?k30 ?a31 ?l31 ?c31 ?k31 ?a32 ?l32 ?c32 ?k32 ?a33 ?l33 ?c33 ?k33 ?a34 ?l34 ?c34 ?k34 ?a35 ?l35 ?c35 ?k35 ?a36 ?l36 ?c36 ?k36 ?a37 ?l37 ?c37 ?k37 ?a38 ?l38 ?c38 ?k38 ?a39 ?l39 ?c39 ?k39 ?a40 ?l40 ?c40 ?k40 ?a41 ?l41 ?c41 ?k41 ?a42 ?l42 ?c42 ?k42 ?a43 ?l43 ?c43 ?k43 ?a44 ?l44 ?c44 ?k44 ?a45 ?l45 ?c45 ?k45 ?a46 ?l46 ?c46 ?k46 ?a47 ?l47 ?c47 ?k47 ?a48 ?l48 ?c48 ?k48 ?a49 ?l49 ?c49 ?k49 ?a50 ?l50 ?c50 ?k50 ?a51 ?l51 ?c51 ?k51 ?a52 ?l52 ?c52 ?k52 ?a53 ?l53 ?c53 ?k53 ?a54 ?l54 ?c54 ?k54 ?a55 ?l55 ?c55 ?k55 ?a56 ?l56 ?c56 ?k56 ?a57 ?l57 ?c57 ?k57 ?a58 ?l58 ?c58 ?k58 ?a59 ?l59 ?c59 ?k59 ?a60 ?l60 ?c60 ?k60 ?a61 ?l61 ?c61 ?k61 ?a62 ?l62 ?c62 ?k62 ?a63 ?l63 ?c63 ?k63 ?i_HIGHEST ?i_MOST_HANDICAP ?i_MOST_HOLES ?i_MOST_PLAYERS ?i_MOST_STROKES ?z_abs ?z_all ?z_bool ?z_dict ?z_enumerate ?z_int ?z_isinstance ?z_len ?z_max ?z_min ?z_range ?z_set ?z_sorted ?z_sum ?z_tuple ?z_zip
    (case a0 => k_is)
    (case l0 => k_is)
    (case c0 => k_is)
    (case k0 => k_is)
    (case a1 => k_is)
    (case l1 => k_is)
    (case c1 => k_is)
    (case k1 => k_is)
    (case a2 => k_is)
    (case l2 => k_is)
    (case c2 => k_is)
    (case k2 => k_is)
    (case a3 => k_is)
    (case l3 => k_is)
    (case c3 => k_is)
    (case k3 => k_is)
    (case a4 => k_is)
    (case l4 => k_is)
    (case c4 => k_is)
    (case k4 => k_is)
    (case a5 => k_is)
    (case l5 => k_is)
    (case c5 => k_is)
    (case k5 => k_is)
    (case a6 => k_is)
    (case l6 => k_is)
    (case c6 => k_is)
    (case k6 => k_is)
    (case a7 => k_is)
    (case l7 => k_is)
    (case c7 => k_is)
    (case k7 => k_is)
    (case a8 => k_is)
    (case l8 => k_is)
    (case c8 => k_is)
    (case k8 => k_is)
    (case a9 => k_is)
    (case l9 => k_is)
    (case c9 => k_is)
    (case k9 => k_is)
    (case a10 => k_is)
    (case l10 => k_is)
    (case c10 => k_is)
    (case k10 => k_is)
    (case a11 => k_is)
    (case l11 => k_is)
    (case c11 => k_is)
    (case k11 => k_is)
    (case a12 => k_is)
    (case l12 => k_is)
    (case c12 => k_is)
    (case k12 => k_is)
    (case a13 => k_is)
    (case l13 => k_is)
    (case c13 => k_is)
    (case k13 => k_is)
    (case a14 => k_is)
    (case l14 => k_is)
    (case c14 => k_is)
    (case k14 => k_is)
    (case a15 => k_is)
    (case l15 => k_is)
    (case c15 => k_is)
    (case k15 => k_is)
    (case a16 => k_is)
    (case l16 => k_is)
    (case c16 => k_is)
    (case k16 => k_is)
    (case a17 => k_is)
    (case l17 => k_is)
    (case c17 => k_is)
    (case k17 => k_is)
    (case a18 => k_is)
    (case l18 => k_is)
    (case c18 => k_is)
    (case k18 => k_is)
    (case a19 => k_is)
    (case l19 => k_is)
    (case c19 => k_is)
    (case k19 => k_is)
    (case a20 => k_is)
    (case l20 => k_is)
    (case c20 => k_is)
    (case k20 => k_is)
    (case a21 => k_is)
    (case l21 => k_is)
    (case c21 => k_is)
    (case k21 => k_is)
    (case a22 => k_is)
    (case l22 => k_is)
    (case c22 => k_is)
    (case k22 => k_is)
    (case a23 => k_is)
    (case l23 => k_is)
    (case c23 => k_is)
    (case k23 => k_is)
    (case a24 => k_is)
    (case l24 => k_is)
    (case c24 => k_is)
    (case k24 => k_is)
    (case a25 => k_is)
    (case l25 => k_is)
    (case c25 => k_is)
    (case k25 => k_is)
    (case a26 => k_is)
    (case l26 => k_is)
    (case c26 => k_is)
    (case k26 => k_is)
    (case a27 => k_is)
    (case l27 => k_is)
    (case c27 => k_is)
    (case k27 => k_is)
    (case a28 => k_is)
    (case l28 => k_is)
    (case c28 => k_is)
    (case k28 => k_is)
    (case a29 => k_is)
    (case l29 => k_is)
    (case c29 => k_is)
    (case k29 => k_is)
    (case a30 => k_is)
    (case l30 => k_is)
    (case c30 => k_is)
    (case k30 => k_is)
    (case a31 => k_is)
    (case l31 => k_is)
    (case c31 => k_is)
    (case k31 => k_is)
    (case a32 => k_is)
    (case l32 => k_is)
    (case c32 => k_is)
    (case k32 => k_is)
    (case a33 => k_is)
    (case l33 => k_is)
    (case c33 => k_is)
    (case k33 => k_is)
    (case a34 => k_is)
    (case l34 => k_is)
    (case c34 => k_is)
    (case k34 => k_is)
    (case a35 => k_is)
    (case l35 => k_is)
    (case c35 => k_is)
    (case k35 => k_is)
    (case a36 => k_is)
    (case l36 => k_is)
    (case c36 => k_is)
    (case k36 => k_is)
    (case a37 => k_is)
    (case l37 => k_is)
    (case c37 => k_is)
    (case k37 => k_is)
    (case a38 => k_is)
    (case l38 => k_is)
    (case c38 => k_is)
    (case k38 => k_is)
    (case a39 => k_is)
    (case l39 => k_is)
    (case c39 => k_is)
    (case k39 => k_is)
    (case a40 => k_is)
    (case l40 => k_is)
    (case c40 => k_is)
    (case k40 => k_is)
    (case a41 => k_is)
    (case l41 => k_is)
    (case c41 => k_is)
    (case k41 => k_is)
    (case a42 => k_is)
    (case l42 => k_is)
    (case c42 => k_is)
    (case k42 => k_is)
    (case a43 => k_is)
    (case l43 => k_is)
    (case c43 => k_is)
    (case k43 => k_is)
    (case a44 => k_is)
    (case l44 => k_is)
    (case c44 => k_is)
    (case k44 => k_is)
    (case a45 => k_is)
    (case l45 => k_is)
    (case c45 => k_is)
    (case k45 => k_is)
    (case a46 => k_is)
    (case l46 => k_is)
    (case c46 => k_is)
    (case k46 => k_is)
    (case a47 => k_is)
    (case l47 => k_is)
    (case c47 => k_is)
    (case k47 => k_is)
    (case a48 => k_is)
    (case l48 => k_is)
    (case c48 => k_is)
    (case k48 => k_is)
    (case a49 => k_is)
    (case l49 => k_is)
    (case c49 => k_is)
    (case k49 => k_is)
    (case a50 => k_is)
    (case l50 => k_is)
    (case c50 => k_is)
    (case k50 => k_is)
    (case a51 => k_is)
    (case l51 => k_is)
    (case c51 => k_is)
    (case k51 => k_is)
    (case a52 => k_is)
    (case l52 => k_is)
    (case c52 => k_is)
    (case k52 => k_is)
    (case a53 => k_is)
    (case l53 => k_is)
    (case c53 => k_is)
    (case k53 => k_is)
    (case a54 => k_is)
    (case l54 => k_is)
    (case c54 => k_is)
    (case k54 => k_is)
    (case a55 => k_is)
    (case l55 => k_is)
    (case c55 => k_is)
    (case k55 => k_is)
    (case a56 => k_is)
    (case l56 => k_is)
    (case c56 => k_is)
    (case k56 => k_is)
    (case a57 => k_is)
    (case l57 => k_is)
    (case c57 => k_is)
    (case k57 => k_is)
    (case a58 => k_is)
    (case l58 => k_is)
    (case c58 => k_is)
    (case k58 => k_is)
    (case a59 => k_is)
    (case l59 => k_is)
    (case c59 => k_is)
    (case k59 => k_is)
    (case a60 => k_is)
    (case l60 => k_is)
    (case c60 => k_is)
    (case k60 => k_is)
    (case a61 => k_is)
    (case l61 => k_is)
    (case c61 => k_is)
    (case k61 => k_is)
    (case a62 => k_is)
    (case l62 => k_is)
    (case c62 => k_is)
    (case k62 => k_is)
    (case a63 => k_is)
    (case l63 => k_is)
    (case c63 => k_is)
    (case k63 => k_is)
    (case i_HIGHEST => k_is)
    (case i_MOST_HANDICAP => k_is)
    (case i_MOST_HOLES => k_is)
    (case i_MOST_PLAYERS => k_is)
    (case i_MOST_STROKES => k_is)
    (case z_abs => k_is)
    (case z_all => k_is)
    (case z_bool => k_is)
    (case z_dict => k_is)
    (case z_enumerate => k_is)
    (case z_int => k_is)
    (case z_isinstance => k_is)
    (case z_len => k_is)
    (case z_max => k_is)
    (case z_min => k_is)
    (case z_range => k_is)
    (case z_set => k_is)
    (case z_sorted => k_is)
    (case z_sum => k_is)
    (case z_tuple => k_is)
    (case z_zip => k_is)
