import PyProof.Rows.All
import Wide.All
import OpenK.AllK
import Wide.FinOn
import PyProof.EqAt
import PyProof.EqKinds
import PyProof.TupleCall
import PyProof.NoPylong
import HandS.ForExc
import HandS.Comp
import HandS.IsInst
import HandS.TupAny
import HandS.TupMul
import HandS.Style
import HandS.ExcIs
import HandS.Wide
import HandS.WideBits
import HandS.CallSlots
import HandS.Deep
import HandS.Iter
import KE.DataCmp
import KE.SortData
import PySem.Challenge.RW_fractionparts_k11_whole_built_and_apart
set_option Elab.async false
set_option linter.all false
set_option maxRecDepth 100000
set_option maxHeartbeats 2000000
/-! A level of plain data over the layer: a name holds a datum (PyData), or a list of its own that is being filled; what a construct does is said of data alone. -/
namespace DL
open PySem PySem.Spec L2
set_option autoImplicit false

abbrev D := PyData

/-! ### values and data -/
mutual
inductive Rp (K : PySem.W.Frag) (H : Hp) : V → D → Prop
  | non : Rp K H .non .none
  | bl (b : Bool) : Rp K H (.bl b) (.bool b)
  | int (i : Int) : Rp K H (.int i) (.int i)
  | str (x : Str) : Rp K H (.str x) (.str x)
  | lst {a : Addr} {xs : List V} {ds : List D} : H a = some (.lst xs) → RpAll K H xs ds → Rp K H (.ref a) (.list ds)
  | tup {a : Addr} {xs : List V} {ds : List D} : SqT K H a xs → RpAll K H xs ds → Rp K H (.ref a) (.tuple ds)
inductive RpAll (K : PySem.W.Frag) (H : Hp) : List V → List D → Prop
  | nil : RpAll K H [] []
  | cons {v : V} {vs : List V} {d : D} {ds : List D} : Rp K H v d → RpAll K H vs ds → RpAll K H (v :: vs) (d :: ds)
end

theorem Same.sqT {K : PySem.W.Frag} {H H' : Hp} {a : Addr} {xs : List V} (e : Same H H') (h : SqT K H a xs) : SqT K H' a xs := by
  rcases h with (h | ⟨o, h⟩) | h
  · exact .inl (.inl (e _ _ h))
  · exact .inl (.inr ⟨o, e _ _ h⟩)
  · exact .inr h

section
variable {K : PySem.W.Frag} {H H' : Hp}
mutual
theorem Rp.mono (e : Same H H') : ∀ (d : D) (v : V), Rp K H v d → Rp K H' v d
  | .none, _, h => by cases h; exact .non
  | .bool b, _, h => by cases h; exact .bl b
  | .int i, _, h => by cases h; exact .int i
  | .str x, _, h => by cases h; exact .str x
  | .list ds, _, h => by
    cases h with
    | lst hs ha => exact .lst (e _ _ hs) (RpAll.mono e ds _ ha)
  | .tuple ds, _, h => by
    cases h with
    | tup hs ha => exact .tup (Same.sqT e hs) (RpAll.mono e ds _ ha)
  | .dict _, _, h => by cases h
theorem RpAll.mono (e : Same H H') : ∀ (ds : List D) (vs : List V), RpAll K H vs ds → RpAll K H' vs ds
  | [], _, h => by cases h; exact .nil
  | d :: ds, _, h => by
    cases h with
    | cons h1 h2 => exact .cons (Rp.mono e d _ h1) (RpAll.mono e ds _ h2)
end
mutual
theorem Rp.dp : ∀ (d : D) (v : V), Rp K H v d → Dp K H v d
  | .none, _, h => by cases h; exact .non
  | .bool b, _, h => by cases h; exact .bl b
  | .int i, _, h => by cases h; exact .int i
  | .str x, _, h => by cases h; exact .str x
  | .list ds, _, h => by
    cases h with
    | lst hs ha => exact .lst (SqL.of hs) (RpAll.dp ds _ ha)
  | .tuple ds, _, h => by
    cases h with
    | tup hs ha => exact .tup hs (RpAll.dp ds _ ha)
  | .dict _, _, h => by cases h
theorem RpAll.dp : ∀ (ds : List D) (vs : List V), RpAll K H vs ds → DpAll K H vs ds
  | [], _, h => by cases h; exact .nil
  | d :: ds, _, h => by
    cases h with
    | cons h1 h2 => exact .cons (Rp.dp d _ h1) (RpAll.dp ds _ h2)
end
theorem RpAll.length : ∀ {ds : List D} {vs : List V}, RpAll K H vs ds → vs.length = ds.length
  | [], _, h => by cases h; rfl
  | d :: ds, _, h => by
    cases h with
    | cons h1 h2 => show _ + 1 = _ + 1; rw [RpAll.length h2]
theorem RpAll.get : ∀ {ds : List D} {vs : List V} {i : Nat} {d : D}, RpAll K H vs ds → ds[i]? = some d → ∃ v, vs[i]? = some v ∧ Rp K H v d
  | [], _, _, _, _, e => by simp at e
  | d :: ds, _, 0, _, h, e => by
    cases h with
    | cons h1 h2 => simp at e; subst e; exact ⟨_, rfl, h1⟩
  | d :: ds, _, i + 1, _, h, e => by
    cases h with
    | cons h1 h2 =>
      obtain ⟨v, q1, q2⟩ := RpAll.get (i := i) h2 (by simpa using e)
      exact ⟨v, by simpa using q1, q2⟩
theorem RpAll.append : ∀ {ds es : List D} {vs ws : List V}, RpAll K H vs ds → RpAll K H ws es → RpAll K H (vs ++ ws) (ds ++ es)
  | [], _, _, _, h, h' => by cases h; exact h'
  | d :: ds, _, _, _, h, h' => by
    cases h with
    | cons h1 h2 => exact .cons h1 (RpAll.append h2 h')
theorem RpAll.set : ∀ {ds : List D} {vs : List V} (i : Nat) {v : V} {d : D}, RpAll K H vs ds → Rp K H v d → RpAll K H (vs.set i v) (ds.set i d)
  | [], _, i, _, _, h, _ => by cases h; exact .nil
  | d :: ds, _, 0, _, _, h, h' => by
    cases h with
    | cons h1 h2 => exact .cons h' h2
  | d :: ds, _, i + 1, _, _, h, h' => by
    cases h with
    | cons h1 h2 => exact .cons h1 (RpAll.set i h2 h')
theorem RpAll.take : ∀ {ds : List D} {vs : List V} (n : Nat), RpAll K H vs ds → RpAll K H (vs.take n) (ds.take n)
  | _, _, 0, _ => by rw [List.take_zero, List.take_zero]; exact .nil
  | [], _, n + 1, h => by cases h; exact .nil
  | d :: ds, _, n + 1, h => by
    cases h with
    | cons h1 h2 => exact .cons h1 (RpAll.take n h2)
theorem RpAll.drop : ∀ {ds : List D} {vs : List V} (n : Nat), RpAll K H vs ds → RpAll K H (vs.drop n) (ds.drop n)
  | _, _, 0, h => h
  | [], _, n + 1, h => by cases h; exact .nil
  | d :: ds, _, n + 1, h => by
    cases h with
    | cons h1 h2 => exact RpAll.drop n h2
theorem RpAll.rep {ds : List D} {vs : List V} (h : RpAll K H vs ds) : ∀ k : Nat, RpAll K H (List.replicate k vs).flatten (List.replicate k ds).flatten
  | 0 => .nil
  | k + 1 => by
    rw [List.replicate_succ, List.replicate_succ, List.flatten_cons, List.flatten_cons]
    exact h.append (RpAll.rep h k)
theorem RpAll.nth {ds : List D} {vs : List V} (h : RpAll K H vs ds) {i : Nat} {v : V} (e : vs[i]? = some v) : ∃ d, ds[i]? = some d ∧ Rp K H v d := by
  have hl := h.length
  have hi : i < vs.length := (List.getElem?_eq_some_iff.mp e).1
  have hd : ds[i]? = some ds[i] := List.getElem?_eq_getElem (by omega)
  obtain ⟨w, q1, q2⟩ := h.get hd
  rw [e] at q1; cases q1
  exact ⟨_, hd, q2⟩
end

/-! ### the names -/
inductive En where
  | no
  | im (d : D)
  | own (ds : List D)
  | scr (ns : List Int)
abbrev Ct := List En

/-- where the lists that are being filled stand: those of the names, and some that have no name -/
structure Ad where
  pl : Nat → Addr
  hid : Addr → Prop
def Owned (Γ : Ct) (ad : Ad) (b : Addr) : Prop := ad.hid b ∨ ∃ (i : Nat) (ds : List D), Γ[i]? = some (.own ds) ∧ ad.pl i = b
open Classical in
/-- the heap without what is in S -/
noncomputable def hide (S : Addr → Prop) (H : Hp) : Hp := fun b => if S b then none else H b
/-- the heap without the lists that are being filled -/
noncomputable def msk (Γ : Ct) (ad : Ad) (H : Hp) : Hp := hide (Owned Γ ad) H
theorem msk_of {Γ : Ct} {ad : Ad} {H : Hp} {b : Addr} {o : HO} (h : msk Γ ad H b = some o) : H b = some o ∧ ¬ Owned Γ ad b := by
  unfold msk hide at h
  split at h
  · cases h
  · exact ⟨h, by assumption⟩
theorem msk_mk {Γ : Ct} {ad : Ad} {H : Hp} {b : Addr} {o : HO} (h : H b = some o) (n : ¬ Owned Γ ad b) : msk Γ ad H b = some o := by
  unfold msk hide
  rw [if_neg n]
  exact h
theorem msk_le {Γ : Ct} {ad : Ad} {H : Hp} : Same (msk Γ ad H) H := fun _ _ h => (msk_of h).1
theorem msk_same {Γ : Ct} {ad : Ad} {H H' : Hp} (e : Same H H') : Same (msk Γ ad H) (msk Γ ad H') := fun b o h => by
  obtain ⟨h1, h2⟩ := msk_of h
  exact msk_mk (e _ _ h1) h2

/-- what stands through a whole body: the heap at its entry, what it may raise (by tags), how that is wished for -/
structure Fx where
  H0 : Hp
  Ex : Nat → Prop
  Wx : XK
  cl : Nat → Addr
  S : Addr → Prop
  good : ∀ tag H', Same H0 H' → Ex tag → Wx (.ref (cl tag)) none H'

structure Cq (K : PySem.W.Frag) (F : Fx) (ad : Ad) (Γ : Ct) (σ : St) (H : Hp) : Prop where
  len : Γ.length = σ.length
  same : Same F.H0 H
  new : ∀ b, Owned Γ ad b → F.S b ∨ F.H0 b = none
  im : ∀ (i : Nat) (d : D), Γ[i]? = some (.im d) → ∃ v, σ[i]? = some (some v) ∧ Rp K (msk Γ ad H) v d
  own : ∀ (i : Nat) (ds : List D), Γ[i]? = some (.own ds) → σ[i]? = some (some (.ref (ad.pl i))) ∧ ∃ vs, H (ad.pl i) = some (.lst vs) ∧ RpAll K (msk Γ ad H) vs ds
  scr : ∀ (i : Nat) (ns : List Int), Γ[i]? = some (.scr ns) → ∃ a, σ[i]? = some (some (.ref a)) ∧ SqL K (msk Γ ad H) a (ns.map V.int)
  inj : ∀ (i j : Nat) (ds es : List D), Γ[i]? = some (.own ds) → Γ[j]? = some (.own es) → ad.pl i = ad.pl j → i = j
  hid : ∀ b, ad.hid b → ∃ vs, H b = some (.lst vs)
  apart : ∀ (i : Nat) (ds : List D), Γ[i]? = some (.own ds) → ¬ ad.hid (ad.pl i)
  hidS : ∀ b, F.S b → ad.hid b

section
variable {K : PySem.W.Frag} {F : Fx} {ad : Ad} {Γ : Ct} {σ : St} {H H' : Hp}
/-- things were made -/
theorem Cq.grow (C : Cq K F ad Γ σ H) (e : Same H H') : Cq K F ad Γ σ H' where
  len := C.len
  same := C.same.trans e
  new := C.new
  im := fun i d h => let ⟨v, h1, h2⟩ := C.im i d h; ⟨v, h1, h2.mono (msk_same e)⟩
  own := fun i ds h => let ⟨h1, vs, h2, h3⟩ := C.own i ds h; ⟨h1, vs, e _ _ h2, h3.mono (msk_same e)⟩
  scr := fun i ns h => let ⟨a, h1, h2⟩ := C.scr i ns h; ⟨a, h1, (msk_same e).seq h2⟩
  inj := C.inj
  hid := fun b hb => let ⟨vs, h⟩ := C.hid b hb; ⟨vs, e _ _ h⟩
  apart := C.apart
  hidS := C.hidS
theorem Cq.owned_some (C : Cq K F ad Γ σ H) {b : Addr} (h : Owned Γ ad b) : ∃ vs, H b = some (.lst vs) := by
  rcases h with h | ⟨i, ds, h1, rfl⟩
  · exact C.hid b h
  · obtain ⟨_, vs, h2, _⟩ := C.own i ds h1
    exact ⟨vs, h2⟩
theorem Cq.fresh (C : Cq K F ad Γ σ H) {p : Addr} (h : H p = none) : ¬ Owned Γ ad p := fun o => by
  obtain ⟨vs, e⟩ := C.owned_some o
  rw [h] at e; cases e
theorem msk_none {p : Addr} (h : H p = none) : msk Γ ad H p = none := by
  unfold msk hide
  split
  · rfl
  · exact h
theorem upd_grow {p : Addr} {o : HO} (h : H p = none) : Same H (upd H p o) := fun b x e => by
  rw [upd_ne (ne_of_none e h)]; exact e
/-- a new object, seen without the lists -/
theorem Cq.new_msk (C : Cq K F ad Γ σ H) {p : Addr} {o : HO} (h : H p = none) : msk Γ ad (upd H p o) p = some o := msk_mk upd_same (C.fresh h)

theorem get_set_cases {α : Type} {l : List α} {i j : Nat} {x y : α} (h : (l.set i x)[j]? = some y) : (j = i ∧ x = y ∧ i < l.length) ∨ (j ≠ i ∧ l[j]? = some y) := by
  by_cases hj : j = i
  · subst hj
    rw [List.getElem?_set, if_pos rfl] at h
    split at h
    · exact .inl ⟨rfl, Option.some.inj h, by assumption⟩
    · cases h
  · rw [List.getElem?_set_ne (Ne.symm hj)] at h
    exact .inr ⟨hj, h⟩
/-- a name is stored: slot i no longer holds a list of its own -/
theorem owned_set {i : Nat} {e : En} (he : ∀ ds, e ≠ .own ds) {b : Addr} (h : Owned (Γ.set i e) ad b) : ad.hid b ∨ ∃ (j : Nat) (ds : List D), j ≠ i ∧ Γ[j]? = some (.own ds) ∧ ad.pl j = b := by
  rcases h with h | ⟨j, ds, h1, h2⟩
  · exact .inl h
  · rcases get_set_cases h1 with ⟨rfl, q, _⟩ | ⟨hj, q⟩
    · exact absurd q (he ds)
    · exact .inr ⟨j, ds, hj, q, h2⟩
theorem owned_set' {i : Nat} {e : En} (he : ∀ ds, e ≠ .own ds) {b : Addr} (h : Owned (Γ.set i e) ad b) : Owned Γ ad b := by
  rcases owned_set he h with h | ⟨j, ds, _, q, h2⟩
  · exact .inl h
  · exact .inr ⟨j, ds, q, h2⟩
theorem msk_set {i : Nat} {e : En} (he : ∀ ds, e ≠ .own ds) : Same (msk Γ ad H) (msk (Γ.set i e) ad H) := fun b o h => by
  obtain ⟨h1, h2⟩ := msk_of h
  exact msk_mk h1 fun z => h2 (owned_set' he z)
/-- slot i is given what is no list of its own -/
theorem Cq.set_flat (C : Cq K F ad Γ σ H) {i : Nat} {e : En} {v : Option V} (he : ∀ ds, e ≠ .own ds) (hs : ∀ ns, e ≠ .scr ns)
    (him : ∀ d, e = .im d → ∃ u, v = some u ∧ Rp K (msk Γ ad H) u d) : Cq K F ad (Γ.set i e) (σ.set i v) H := by
  have sm : Same (msk Γ ad H) (msk (Γ.set i e) ad H) := msk_set he
  refine ⟨by rw [List.length_set, List.length_set]; exact C.len, C.same, fun b hb => C.new b (owned_set' he hb), fun j d h => ?_, fun j ds h => ?_, fun j ns h => ?_, fun j k ds es h1 h2 h3 => ?_, C.hid, fun j ds h => ?_, C.hidS⟩
  · rcases get_set_cases h with ⟨rfl, q, hl⟩ | ⟨hj, q⟩
    · obtain ⟨u, rfl, r⟩ := him d q
      exact ⟨u, by rw [List.getElem?_set_self (by rw [← C.len]; exact hl)], r.mono sm⟩
    · obtain ⟨u, h1, h2⟩ := C.im j d q
      exact ⟨u, by rw [List.getElem?_set_ne (Ne.symm hj)]; exact h1, h2.mono sm⟩
  · rcases get_set_cases h with ⟨rfl, q, hl⟩ | ⟨hj, q⟩
    · exact absurd q (he ds)
    · obtain ⟨h1, vs, h2, h3⟩ := C.own j ds q
      exact ⟨by rw [List.getElem?_set_ne (Ne.symm hj)]; exact h1, vs, h2, h3.mono sm⟩
  · rcases get_set_cases h with ⟨rfl, q, hl⟩ | ⟨hj, q⟩
    · exact absurd q (hs ns)
    · obtain ⟨a, h1, h2⟩ := C.scr j ns q
      exact ⟨a, by rw [List.getElem?_set_ne (Ne.symm hj)]; exact h1, sm.seq h2⟩
  · rcases get_set_cases h1 with ⟨_, q, _⟩ | ⟨_, q1⟩
    · exact absurd q (he ds)
    · rcases get_set_cases h2 with ⟨_, q, _⟩ | ⟨_, q2⟩
      · exact absurd q (he es)
      · exact C.inj j k ds es q1 q2 h3
  · rcases get_set_cases h with ⟨_, q, _⟩ | ⟨_, q⟩
    · exact absurd q (he ds)
    · exact C.apart j ds q
theorem Cq.set_im (C : Cq K F ad Γ σ H) {i : Nat} {v : V} {d : D} (r : Rp K (msk Γ ad H) v d) : Cq K F ad (Γ.set i (.im d)) (σ.set i (some v)) H :=
  C.set_flat (fun _ z => nomatch z) (fun _ z => nomatch z) fun d' e => by cases e; exact ⟨v, rfl, r⟩
theorem Cq.set_no (C : Cq K F ad Γ σ H) {i : Nat} {v : Option V} : Cq K F ad (Γ.set i .no) (σ.set i v) H :=
  C.set_flat (fun _ z => nomatch z) (fun _ z => nomatch z) fun d' e => nomatch e
/-- the heap without p -/
def but (p : Addr) (H : Hp) : Hp := fun b => if b = p then none else H b
theorem but_le {p : Addr} : Same (but p H) H := fun b o h => by
  unfold but at h
  split at h
  · cases h
  · exact h
theorem but_of {p b : Addr} {o : HO} (h : but p H b = some o) : b ≠ p ∧ H b = some o := by
  unfold but at h
  split at h
  · cases h
  · exact ⟨by assumption, h⟩
theorem but_mk {p b : Addr} {o : HO} (h : H b = some o) (n : b ≠ p) : but p H b = some o := by
  unfold but
  rw [if_neg n]; exact h
/-- ad with p for slot i -/
def Ad.put (ad : Ad) (i : Nat) (p : Addr) : Ad := { ad with pl := fun j => if j = i then p else ad.pl j }
theorem put_self {i : Nat} {p : Addr} : (ad.put i p).pl i = p := if_pos rfl
theorem put_ne {i j : Nat} {p : Addr} (h : j ≠ i) : (ad.put i p).pl j = ad.pl j := if_neg h
/-- a new list is stored, to be filled -/
theorem Cq.set_own (C : Cq K F ad Γ σ H) (e : Same H H') {i : Nat} {p : Addr} {vs : List V} {ds : List D} (hn : H p = none) (hp : H' p = some (.lst vs)) (r : RpAll K (but p (msk Γ ad H')) vs ds) :
    Cq K F (ad.put i p) (Γ.set i (.own ds)) (σ.set i (some (.ref p))) H' ∧ Same (msk Γ ad H) (msk (Γ.set i (.own ds)) (ad.put i p) H') := by
  have nh : ¬ ad.hid p := fun z => by
    obtain ⟨ws, q⟩ := C.hid p z
    rw [hn] at q; cases q
  have cases_ : ∀ b, Owned (Γ.set i (.own ds)) (ad.put i p) b → b = p ∨ Owned Γ ad b := fun b h => by
    rcases h with h | ⟨j, es, h1, h2⟩
    · exact .inr (.inl h)
    · rcases get_set_cases h1 with ⟨rfl, _, _⟩ | ⟨hj, q⟩
      · rw [put_self] at h2; exact .inl h2.symm
      · rw [put_ne hj] at h2; exact .inr (.inr ⟨j, es, q, h2⟩)
  have sm0 : Same (but p (msk Γ ad H')) (msk (Γ.set i (.own ds)) (ad.put i p) H') := fun b o h => by
    obtain ⟨h0, h⟩ := but_of h
    obtain ⟨h1, h2⟩ := msk_of h
    exact msk_mk h1 fun z => (cases_ b z).elim h0 h2
  have sm : Same (msk Γ ad H) (msk (Γ.set i (.own ds)) (ad.put i p) H') := fun b o h => by
    obtain ⟨h1, h2⟩ := msk_of h
    exact sm0 _ _ (but_mk (msk_mk (e _ _ h1) h2) (ne_of_none h1 hn))
  refine ⟨⟨by rw [List.length_set, List.length_set]; exact C.len, C.same.trans e, fun b hb => (cases_ b hb).elim (fun z => .inr (by rw [z]; exact C.same.free hn)) (C.new b), fun j d h => ?_, fun j es h => ?_, fun j ns h => ?_, fun j k d1 d2 h1 h2 h3 => ?_, fun b hb => let ⟨ws, h⟩ := C.hid b hb; ⟨ws, e _ _ h⟩, fun j es h => ?_, C.hidS⟩, sm⟩
  · rcases get_set_cases h with ⟨rfl, q, hl⟩ | ⟨hj, q⟩
    · cases q
    · obtain ⟨u, h1, h2⟩ := C.im j d q
      exact ⟨u, by rw [List.getElem?_set_ne (Ne.symm hj)]; exact h1, h2.mono sm⟩
  · rcases get_set_cases h with ⟨rfl, q, hl⟩ | ⟨hj, q⟩
    · cases q
      refine ⟨?_, vs, ?_, r.mono sm0⟩
      · rw [List.getElem?_set_self (by rw [← C.len]; exact hl), put_self]
      · rw [put_self]; exact hp
    · obtain ⟨h1, ws, h2, h3⟩ := C.own j es q
      refine ⟨?_, ws, ?_, h3.mono sm⟩
      · rw [List.getElem?_set_ne (Ne.symm hj), put_ne hj]; exact h1
      · rw [put_ne hj]; exact e _ _ h2
  · rcases get_set_cases h with ⟨rfl, q, hl⟩ | ⟨hj, q⟩
    · cases q
    · obtain ⟨a, h1, h2⟩ := C.scr j ns q
      exact ⟨a, by rw [List.getElem?_set_ne (Ne.symm hj)]; exact h1, sm.seq h2⟩
  · have old : ∀ (l : Nat) (es : List D), l ≠ i → Γ[l]? = some (.own es) → ad.pl l ≠ p := fun l es hl q z => by
      obtain ⟨_, ws, h4, _⟩ := C.own l es q
      rw [z, hn] at h4; cases h4
    rcases get_set_cases h1 with ⟨rfl, _, _⟩ | ⟨hj, q1⟩
    · rcases get_set_cases h2 with ⟨rfl, _, _⟩ | ⟨hk, q2⟩
      · rfl
      · rw [put_self, put_ne hk] at h3
        exact absurd h3.symm (old k d2 hk q2)
    · rcases get_set_cases h2 with ⟨rfl, _, _⟩ | ⟨hk, q2⟩
      · rw [put_self, put_ne hj] at h3
        exact absurd h3 (old j d1 hj q1)
      · rw [put_ne hj, put_ne hk] at h3
        exact C.inj j k d1 d2 q1 q2 h3
  · rcases get_set_cases h with ⟨rfl, _, _⟩ | ⟨hj, q⟩
    · rw [put_self]; exact nh
    · rw [put_ne hj]; exact C.apart j es q
/-- a list of our own is changed -/
theorem Cq.write (C : Cq K F ad Γ σ H) {i : Nat} {ds es : List D} {vs : List V} (hi : Γ[i]? = some (.own ds)) (r : RpAll K (msk Γ ad H) vs es) :
    Cq K F ad (Γ.set i (.own es)) σ (upd H (ad.pl i) (.lst vs)) ∧ Same (msk Γ ad H) (msk (Γ.set i (.own es)) ad (upd H (ad.pl i) (.lst vs))) := by
  have hlt : i < Γ.length := (List.getElem?_eq_some_iff.mp hi).1
  have own_iff : ∀ b, Owned (Γ.set i (.own es)) ad b → Owned Γ ad b := fun b h => by
    rcases h with h | ⟨j, fs, h1, h2⟩
    · exact .inl h
    · rcases get_set_cases h1 with ⟨rfl, _, _⟩ | ⟨hj, q⟩
      · exact .inr ⟨j, ds, hi, h2⟩
      · exact .inr ⟨j, fs, q, h2⟩
  have sm : Same (msk Γ ad H) (msk (Γ.set i (.own es)) ad (upd H (ad.pl i) (.lst vs))) := fun b o h => by
    obtain ⟨h1, h2⟩ := msk_of h
    refine msk_mk ?_ fun z => h2 (own_iff b z)
    rw [upd_ne fun z => h2 (.inr ⟨i, ds, hi, z.symm⟩)]; exact h1
  have was : ∀ (j : Nat) (d1 : List D), (Γ.set i (.own es))[j]? = some (.own d1) → ∃ e1, Γ[j]? = some (.own e1) := fun j d1 h => by
    rcases get_set_cases h with ⟨rfl, _, _⟩ | ⟨hj, q1⟩
    · exact ⟨ds, hi⟩
    · exact ⟨d1, q1⟩
  have keep : Same F.H0 (upd H (ad.pl i) (.lst vs)) := fun b o hb => by
    have nb : b ≠ ad.pl i := fun z => by
      rcases C.new (ad.pl i) (.inr ⟨i, ds, hi, rfl⟩) with q | q
      · exact C.apart i ds hi (C.hidS _ q)
      · rw [← z, hb] at q; cases q
    rw [upd_ne nb]; exact C.same _ _ hb
  refine ⟨⟨by rw [List.length_set]; exact C.len, keep, fun b hb => C.new b (own_iff b hb), fun j d h => ?_, fun j fs h => ?_, fun j ns h => ?_, fun j k d1 d2 h1 h2 h3 => ?_, fun b hb => ?_, fun j fs h => ?_, C.hidS⟩, sm⟩
  · rcases get_set_cases h with ⟨rfl, q, hl⟩ | ⟨hj, q⟩
    · cases q
    · obtain ⟨u, h1, h2⟩ := C.im j d q
      exact ⟨u, h1, h2.mono sm⟩
  · rcases get_set_cases h with ⟨rfl, q, hl⟩ | ⟨hj, q⟩
    · cases q
      exact ⟨(C.own j ds hi).1, vs, upd_same, r.mono sm⟩
    · obtain ⟨h1, ws, h2, h3⟩ := C.own j fs q
      refine ⟨h1, ws, ?_, h3.mono sm⟩
      rw [upd_ne fun z => hj (C.inj j i fs ds q hi z)]; exact h2
  · rcases get_set_cases h with ⟨rfl, q, hl⟩ | ⟨hj, q⟩
    · cases q
    · obtain ⟨a, h1, h2⟩ := C.scr j ns q
      exact ⟨a, h1, sm.seq h2⟩
  · obtain ⟨e1, q1⟩ := was j d1 h1
    obtain ⟨e2, q2⟩ := was k d2 h2
    exact C.inj j k e1 e2 q1 q2 h3
  · obtain ⟨ws, q⟩ := C.hid b hb
    have nb : b ≠ ad.pl i := fun z => C.apart i ds hi (z ▸ hb)
    exact ⟨ws, by rw [upd_ne nb]; exact q⟩
  · obtain ⟨e1, q1⟩ := was j fs h
    exact C.apart j e1 q1
/-- a list of our own is filled no more -/
theorem Cq.frz (C : Cq K F ad Γ σ H) {i : Nat} {ds : List D} (hi : Γ[i]? = some (.own ds)) :
    Cq K F ad (Γ.set i (.im (.list ds))) σ H ∧ Same (msk Γ ad H) (msk (Γ.set i (.im (.list ds))) ad H) := by
  have ne : ∀ es, En.im (.list ds) ≠ .own es := fun es z => by cases z
  have sm : Same (msk Γ ad H) (msk (Γ.set i (.im (.list ds))) ad H) := msk_set ne
  refine ⟨⟨by rw [List.length_set]; exact C.len, C.same, fun b hb => C.new b (owned_set' ne hb), fun j e h => ?_, fun j es h => ?_, fun j ns h => ?_, fun j k d1 d2 h1 h2 h3 => ?_, C.hid, fun j es h => ?_, C.hidS⟩, sm⟩
  · rcases get_set_cases h with ⟨rfl, q, hl⟩ | ⟨hj, q⟩
    · cases q
      obtain ⟨h1, vs, h2, h3⟩ := C.own j ds hi
      refine ⟨_, h1, .lst (msk_mk h2 fun z => ?_) (h3.mono sm)⟩
      rcases owned_set ne z with z | ⟨l, es, hl, q, q2⟩
      · exact C.apart j ds hi z
      · exact hl (C.inj l j es ds q hi q2)
    · obtain ⟨u, h1, h2⟩ := C.im j e q
      exact ⟨u, h1, h2.mono sm⟩
  · rcases get_set_cases h with ⟨rfl, q, hl⟩ | ⟨hj, q⟩
    · cases q
    · obtain ⟨h1, ws, h2, h3⟩ := C.own j es q
      exact ⟨h1, ws, h2, h3.mono sm⟩
  · rcases get_set_cases h with ⟨rfl, q, hl⟩ | ⟨hj, q⟩
    · cases q
    · obtain ⟨a, h1, h2⟩ := C.scr j ns q
      exact ⟨a, h1, sm.seq h2⟩
  · rcases get_set_cases h1 with ⟨_, q, _⟩ | ⟨_, q1⟩
    · cases q
    · rcases get_set_cases h2 with ⟨_, q, _⟩ | ⟨_, q2⟩
      · cases q
      · exact C.inj j k d1 d2 q1 q2 h3
  · rcases get_set_cases h with ⟨_, q, _⟩ | ⟨_, q⟩
    · cases q
    · exact C.apart j es q
/-- one more list without a name -/
def Ad.more (ad : Ad) (p : Addr) : Ad := { ad with hid := fun b => b = p ∨ ad.hid b }
theorem owned_more {p b : Addr} (h : Owned Γ (ad.more p) b) : b = p ∨ Owned Γ ad b := by
  rcases h with (h | h) | h
  · exact .inl h
  · exact .inr (.inl h)
  · exact .inr (.inr h)
theorem more_le {p : Addr} : Same (msk Γ (ad.more p) H) (but p (msk Γ ad H)) := fun b o h => by
  obtain ⟨h1, h2⟩ := msk_of h
  exact but_mk (msk_mk h1 fun z => h2 (z.elim (fun z => .inl (.inr z)) .inr)) fun z => h2 (.inl (.inl z))
theorem more_ge {p : Addr} : Same (but p (msk Γ ad H)) (msk Γ (ad.more p) H) := fun b o h => by
  obtain ⟨h0, h⟩ := but_of h
  obtain ⟨h1, h2⟩ := msk_of h
  exact msk_mk h1 fun z => (owned_more z).elim h0 h2
theorem Cq.more (C : Cq K F ad Γ σ H) {p : Addr} {vs : List V} (hn : H p = none) : Cq K F (ad.more p) Γ σ (upd H p (.lst vs)) ∧ Same (msk Γ ad H) (msk Γ (ad.more p) (upd H p (.lst vs))) := by
  have sm : Same (msk Γ ad H) (msk Γ (ad.more p) (upd H p (.lst vs))) := fun b o h => by
    obtain ⟨h1, h2⟩ := msk_of h
    exact more_ge _ _ (but_mk (msk_same (upd_grow hn) _ _ h) (ne_of_none h1 hn))
  refine ⟨⟨C.len, C.same.trans (upd_grow hn), fun b hb => (owned_more hb).elim (fun z => .inr (by rw [z]; exact C.same.free hn)) (C.new b), fun i d h => let ⟨v, h1, h2⟩ := C.im i d h; ⟨v, h1, h2.mono sm⟩, fun i ds h => ?_, fun i ns h => let ⟨a, h1, h2⟩ := C.scr i ns h; ⟨a, h1, sm.seq h2⟩, C.inj, fun b hb => ?_, fun i ds h => ?_, fun b hb => .inr (C.hidS b hb)⟩, sm⟩
  · obtain ⟨h1, ws, h2, h3⟩ := C.own i ds h
    exact ⟨h1, ws, upd_grow hn _ _ h2, h3.mono sm⟩
  · rcases hb with rfl | hb
    · exact ⟨vs, upd_same⟩
    · obtain ⟨ws, q⟩ := C.hid b hb
      exact ⟨ws, upd_grow hn _ _ q⟩
  · intro z
    rcases z with z | z
    · obtain ⟨_, ws, q, _⟩ := C.own i ds h
      have z' : ad.pl i = p := z
      rw [z', hn] at q; cases q
    · exact C.apart i ds h z
/-- a list without a name is changed -/
theorem Cq.hidden (C : Cq K F ad Γ σ H) {p : Addr} {vs : List V} (hp : ad.hid p) (h0 : F.H0 p = none) : Cq K F ad Γ σ (upd H p (.lst vs)) ∧ Same (msk Γ ad H) (msk Γ ad (upd H p (.lst vs))) := by
  have sm : Same (msk Γ ad H) (msk Γ ad (upd H p (.lst vs))) := fun b o h => by
    obtain ⟨h1, h2⟩ := msk_of h
    refine msk_mk ?_ h2
    rw [upd_ne fun z => h2 (.inl (by rw [z]; exact hp))]; exact h1
  refine ⟨⟨C.len, fun b o hb => by rw [upd_ne (ne_of_none hb h0)]; exact C.same _ _ hb, C.new, fun i d h => let ⟨v, h1, h2⟩ := C.im i d h; ⟨v, h1, h2.mono sm⟩, fun i ds h => ?_, fun i ns h => let ⟨a, h1, h2⟩ := C.scr i ns h; ⟨a, h1, sm.seq h2⟩, C.inj, fun b hb => ?_, C.apart, C.hidS⟩, sm⟩
  · obtain ⟨h1, ws, h2, h3⟩ := C.own i ds h
    refine ⟨h1, ws, ?_, h3.mono sm⟩
    rw [upd_ne fun z => C.apart i ds h (by rw [z]; exact hp)]; exact h2
  · by_cases z : b = p
    · subst z; exact ⟨vs, upd_same⟩
    · obtain ⟨ws, q⟩ := C.hid b hb
      exact ⟨ws, by rw [upd_ne z]; exact q⟩
/-- without the lists of others -/
theorem Cq.msk_S (C : Cq K F ad Γ σ H) {H' : Hp} : Same (msk Γ ad H') (hide F.S H') := fun b o h => by
  obtain ⟨h1, h2⟩ := msk_of h
  unfold hide
  rw [if_neg fun z => h2 (.inl (C.hidS b z))]
  exact h1
end
end DL

set_option Elab.async false
set_option linter.all false
set_option maxRecDepth 100000
set_option maxHeartbeats 2000000
namespace DL
open PySem PySem.Spec L2
set_option autoImplicit false

/-! ### what a construct does to data -/
abbrev DE := Ct → (D → Prop) → Prop
abbrev DL_ := Ct → (List D → Prop) → Prop
abbrev DT := Ct → (Bool → Prop) → Prop
structure DEnds where
  nx : Ct → Prop
  rt : D → Prop
  bk : Ct → Prop := fun _ => False
  ct : Ct → Prop := fun _ => False
abbrev DS := DEnds → Ct → Prop

/-- a body, or the bodies of a comprehension's block, in all the contexts where they run -/
structure Bd where
  ι : Type
  X : ι → Cx
  P : Program
  w : World
  K : PySem.W.Frag
  mg : Str → Option Value
  base : Heap
  N : List Str
  k : Nat
  F : Fx
  hP : ∀ i, (X i).prog = P
  hw : ∀ i, (X i).w = w
  hK : ∀ i, (X i).K = K
  hmg : ∀ i, (X i).mg = mg
  hbase : ∀ i, (X i).base = base
  hN : ∀ i, (X i).N = N
  nd : N.Nodup
  hr : ∀ i, Room k (X i).A
  calm : ∀ i, (X i).calm = true
  pass : ∀ i, Passes (L2.CX P w) (X i) F.Wx

section
variable (B : Bd)
def SndE (t : TE) (w : DE) : Prop := ∀ (ad : Ad) (Γ : Ct) (σ : L2.St) (H : Hp) (P : D → Prop) (Q : VK), Cq B.K B.F ad Γ σ H → w Γ P →
  (∀ v H' d, Same H H' → Rp B.K (msk Γ ad H') v d → P d → Q v H') → t σ H Q
def SndL (t : TE) (w : DL_) : Prop := ∀ (ad : Ad) (Γ : Ct) (σ : L2.St) (H : Hp) (P : List D → Prop) (Q : VK), Cq B.K B.F ad Γ σ H → w Γ P →
  (∀ p H' vs ds, Same H H' → H p = none → H' p = some (.lst vs) → RpAll B.K (but p (msk Γ ad H')) vs ds → P ds → Q (.ref p) H') → t σ H Q
def SndA (n : Nat) (t : TA) (w : DL_) : Prop := ∀ (ad : Ad) (Γ : Ct) (σ : L2.St) (H : Hp) (P : List D → Prop) (Q : List V → Hp → Prop), Cq B.K B.F ad Γ σ H → w Γ P →
  (∀ vs H' ds, Same H H' → RpAll B.K (msk Γ ad H') vs ds → ds.length = n → P ds → Q vs H') → t σ H Q
def SndT (t : TT) (w : DT) : Prop := ∀ (ad : Ad) (Γ : Ct) (σ : L2.St) (H : Hp) (P : Bool → Prop) (Q : Bool → Hp → Prop), Cq B.K B.F ad Γ σ H → w Γ P →
  (∀ b H', Same H H' → P b → Q b H') → t σ H Q
structure Lands (ad : Ad) (Γ : Ct) (H : Hp) (D₁ : DEnds) (T : Ends) : Prop where
  nx : ∀ ad' Γ' σ' H', Cq B.K B.F ad' Γ' σ' H' → Same (msk Γ ad H) (msk Γ' ad' H') → D₁.nx Γ' → T.nx σ' H'
  rt : ∀ v H' d, Same B.F.H0 H' → Rp B.K (hide B.F.S H') v d → D₁.rt d → T.rt v H'
  bk : ∀ ad' Γ' σ' H', Cq B.K B.F ad' Γ' σ' H' → Same (msk Γ ad H) (msk Γ' ad' H') → D₁.bk Γ' → T.bk σ' H'
  ct : ∀ ad' Γ' σ' H', Cq B.K B.F ad' Γ' σ' H' → Same (msk Γ ad H) (msk Γ' ad' H') → D₁.ct Γ' → T.ct σ' H'
def SndS (t : TS) (w : DS) : Prop := ∀ (ad : Ad) (Γ : Ct) (σ : L2.St) (H : Hp) (D₁ : DEnds) (T : Ends), Cq B.K B.F ad Γ σ H → w D₁ Γ → Lands B ad Γ H D₁ T → t T σ H

def EE (e : Expr) (w : DE) : Prop := ∃ t, (∀ i, PE (B.X i) e t) ∧ SndE B t w
def EL (e : Expr) (w : DL_) : Prop := ∃ t, (∀ i, PE (B.X i) e t) ∧ SndL B t w
def EA (es : List Expr) (w : DL_) : Prop := ∃ t, (∀ i, PA (B.X i) es t) ∧ SndA B es.length t w
def ET (e : Expr) (w : DT) : Prop := ∃ t, (∀ i, PT (B.X i) e t) ∧ SndT B t w
def EW (e : Expr) (w : DT) : Prop := ∃ t, (∀ i, PW (B.X i) e t) ∧ SndT B t w
def S1 (st : Stmt) (w : DS) : Prop := ∃ t, (∀ i, PS (B.X i) st t) ∧ SndS B t w
def SS (st : List Stmt) (w : DS) : Prop := ∃ t, (∀ i, PSs (B.X i) st t) ∧ SndS B t w
end

section
variable {B : Bd}

/-! ### names, constants -/
def eVar (i : Nat) : DE := fun Γ P => match Γ[i]? with
  | some (.im d) => P d
  | _ => False
theorem ee_var (i : Nat) {x : Str} {pos : Pos} (hN : B.N[i]? = some x := by rfl) (hv : ∀ j, Vis (B.X j).env.scope x := by intro _; first | exact Or.inl rfl | exact Or.inr (Or.inl rfl) | exact Or.inr (Or.inr rfl))
    (hd : (x == ("__debug__" : Str)) = false := by decide) (hcd : (x == ("__classdict__" : Str)) = false := by decide) : EE B (.Name x pos) (eVar i) := by
  refine ⟨tVar i, fun j => pe_var (by rw [B.hN]; exact hN) (hv j) hd hcd, fun ad Γ σ H P Q C h k => ?_⟩
  unfold eVar at h
  split at h
  · rename_i d e
    obtain ⟨v, h1, h2⟩ := C.im i d e
    exact ⟨v, h1, k v H d (Same.refl H) h2 h⟩
  · exact h.elim
def eC (d : D) : DE := fun _ P => P d
theorem ee_int {i j pos} : EE B (.Constant (.int i) j pos) (eC (.int i)) := ⟨tC (.int i), fun _ => pe_int, fun ad Γ σ H P Q C h k => k _ H _ (Same.refl H) (.int i) h⟩
theorem ee_bl {b j pos} : EE B (.Constant (.bool b) j pos) (eC (.bool b)) := ⟨tC (.bl b), fun _ => pe_bl, fun ad Γ σ H P Q C h k => k _ H _ (Same.refl H) (.bl b) h⟩
theorem ee_non {j pos} : EE B (.Constant .none j pos) (eC .none) := ⟨tC .non, fun _ => pe_non, fun ad Γ σ H P Q C h k => k _ H _ (Same.refl H) .non h⟩
theorem ee_str {x j pos} : EE B (.Constant (.str x) j pos) (eC (.str x)) := ⟨tC (.str x), fun _ => pe_str, fun ad Γ σ H P Q C h k => k _ H _ (Same.refl H) (.str x) h⟩
/-- a module's constant -/
structure Glo (K : PySem.W.Frag) (mg : Str → Option Value) (x : Str) (d : D) : Prop where
  ex : ∃ (v : V) (u : Value), mg x = some u ∧ RelV v u ∧ ∀ H, Rp K H v d
theorem ee_glob {x : Str} {d : D} {pos : Pos} (G : Glo B.K B.mg x d) (hg : ∀ j, Gl (B.X j) x := by intro _; rfl) (hd : (x == ("__debug__" : Str)) = false := by decide) : EE B (.Name x pos) (eC d) := by
  obtain ⟨v, u, h1, h2, h3⟩ := G.ex
  exact ⟨tC v, fun j => pe_glob (hg j) (by rw [B.hmg]; exact h1) h2 hd, fun ad Γ σ H P Q C h k => k _ H _ (Same.refl H) (h3 _) h⟩

/-! ### operators by values -/
abbrev D2 := D → D → (D → Prop) → Prop
/-- an operator's rule, seen on data -/
def SndR (r : R2) (w : D2) : Prop := ∀ (Γ : Ct) (ad : Ad) (σ : L2.St) (H : Hp) (x y : V) (d e : D) (P : D → Prop) (Q : VK), Cq B.K B.F ad Γ σ H → Rp B.K (msk Γ ad H) x d → Rp B.K (msk Γ ad H) y e → w d e P →
  (∀ v H' d', Same H H' → Rp B.K (msk Γ ad H') v d' → P d' → Q v H') → r x y H Q
def eOp (w : D2) (a b : DE) : DE := fun Γ P => a Γ fun x => b Γ fun y => w x y P
theorem snd_op {r : R2} {w : D2} {ta tb : TE} {a b : DE} (hr : SndR (B := B) r w) (ha : SndE B ta a) (hb : SndE B tb b) : SndE B (tOp r ta tb) (eOp w a b) := fun ad Γ σ H P Q C h k =>
  ha ad Γ σ H _ _ C h fun x H1 d s1 r1 h1 => hb ad Γ σ H1 _ _ (C.grow s1) h1 fun y H2 e s2 r2 h2 =>
    hr Γ ad σ H2 x y d e _ _ ((C.grow s1).grow s2) (r1.mono (msk_same s2)) r2 h2 fun v H' d' s3 r3 h3 => k v H' d' ((s1.trans s2).trans s3) r3 h3
theorem ee_op {op : Operator} {r : R2} {w : D2} {a b : Expr} {wa wb : DE} {pos : Pos} (ho : ∀ j, OpR (B.X j) (binaryOp op) r) (hr : SndR (B := B) r w) (ha : EE B a wa) (hb : EE B b wb) : EE B (.BinOp a op b pos) (eOp w wa wb) := by
  obtain ⟨ta, pa, sa⟩ := ha
  obtain ⟨tb, pb, sb⟩ := hb
  exact ⟨_, fun j => pe_op (ho j) (pa j) (pb j), snd_op hr sa sb⟩
theorem ee_cmp {op : CmpOp} {r : R2} {w : D2} {a b : Expr} {wa wb : DE} {pos : Pos} (ho : ∀ j, OpR (B.X j) (compareOp op) r) (hr : SndR (B := B) r w) (ha : EE B a wa) (hb : EE B b wb) (hm : behindInMarks op b = false := by first | exact nomark _ | rfl) : EE B (.Compare a [op] [b] pos) (eOp w wa wb) := by
  obtain ⟨ta, pa, sa⟩ := ha
  obtain ⟨tb, pb, sb⟩ := hb
  exact ⟨_, fun j => pe_cmpR (ho j) (pa j) (pb j) hm, snd_op hr sa sb⟩
/-- a value that is a bool, as a test -/
def tBl (w : DE) : DT := fun Γ P => w Γ fun d => match d with
  | .bool b => P b
  | _ => False
theorem et_cmp {op : CmpOp} {r : R2} {w : D2} {a b : Expr} {wa wb : DE} {pos : Pos} (ho : ∀ j, OpR (B.X j) (compareOp op) r) (hr : SndR (B := B) r w) (ha : EE B a wa) (hb : EE B b wb) (hm : behindInMarks op b = false := by first | exact nomark _ | rfl) : ET B (.Compare a [op] [b] pos) (tBl (eOp w wa wb)) := by
  obtain ⟨ta, pa, sa⟩ := ha
  obtain ⟨tb, pb, sb⟩ := hb
  refine ⟨_, fun j => pt_cmpR (ho j) (pa j) (pb j) hm, fun ad Γ σ H P Q C h k => ?_⟩
  refine snd_op hr sa sb ad Γ σ H _ _ C h fun v H' d s r q => ?_
  cases d with
  | bool b => cases r; exact ⟨b, rfl, k b H' s q⟩
  | _ => exact q.elim
/-- an expression as a test -/
theorem et_val {e : Expr} {w : DE} (h : EE B e w) (he : ∀ j whole, isTrue e (B.X j).env whole = (do let v ← whole; standAt e.pos; holding [v] (truthy v)) := by intro _ _; rfl) : ET B e (tBl w) := by
  obtain ⟨t, p, s⟩ := h
  refine ⟨_, fun j => pt_val (p j) (he j), fun ad Γ σ H P Q C h k => ?_⟩
  refine s ad Γ σ H _ _ C h fun v H' d s r q => ?_
  cases d with
  | bool b => cases r; exact ⟨b, rfl, k b H' s q⟩
  | _ => exact q.elim

/-! ### + - * // % ** on ints; + and * on lists and tuples -/
def dI (C : Int → Int → Prop) (g : Int → Int → Int) : D2 := fun x y P => match x, y with
  | .int i, .int j => C i j ∧ P (.int (g i j))
  | _, _ => False
theorem snd_rI {C : Int → Int → Prop} {g : Int → Int → Int} : SndR (B := B) (rI C fun i j => .int (g i j)) (dI C g) := fun Γ ad σ H x y d e P Q Cc rx ry h k => by
  unfold dI at h
  split at h
  · cases rx; cases ry
    exact ⟨_, _, rfl, rfl, h.1, k _ H _ (Same.refl H) (.int _) h.2⟩
  · exact h.elim
theorem snd_rI0 {g : Int → Int → Int} : SndR (B := B) (rI0 fun i j => .int (g i j)) (dI (fun _ _ => True) g) := fun Γ ad σ H x y d e P Q Cc rx ry h k => by
  unfold dI at h
  split at h
  · cases rx; cases ry
    exact ⟨_, _, rfl, rfl, k _ H _ (Same.refl H) (.int _) h.2⟩
  · exact h.elim
def dB (g : Int → Int → Bool) : D2 := fun x y P => match x, y with
  | .int i, .int j => P (.bool (g i j))
  | _, _ => False
theorem snd_rB {g : Int → Int → Bool} : SndR (B := B) (rI0 fun i j => .bl (g i j)) (dB g) := fun Γ ad σ H x y d e P Q Cc rx ry h k => by
  unfold dB at h
  split at h
  · cases rx; cases ry
    exact ⟨_, _, rfl, rfl, k _ H _ (Same.refl H) (.bl _) h⟩
  · exact h.elim
/-- a new list, a new tuple, laid -/
theorem Cq.rp_lst {K : PySem.W.Frag} {F : Fx} {ad : Ad} {Γ : Ct} {σ : L2.St} {H : Hp} {p : Addr} {vs : List V} {ds : List D} (C : Cq K F ad Γ σ H) (hn : H p = none) (r : RpAll K (msk Γ ad H) vs ds) : Rp K (msk Γ ad (upd H p (.lst vs))) (.ref p) (.list ds) :=
  .lst (C.new_msk hn) (r.mono (msk_same (upd_grow hn)))
theorem Cq.rp_tup {K : PySem.W.Frag} {F : Fx} {ad : Ad} {Γ : Ct} {σ : L2.St} {H : Hp} {p : Addr} {vs : List V} {ds : List D} (C : Cq K F ad Γ σ H) (hn : H p = none) (r : RpAll K (msk Γ ad H) vs ds) : Rp K (msk Γ ad (upd H p (.tup vs))) (.ref p) (.tuple ds) :=
  .tup (SqT.of (C.new_msk hn)) (r.mono (msk_same (upd_grow hn)))
def dCat (P : D → Prop) : D → D → Prop
  | .list xs, .list ys => xs.length + ys.length ≤ sizeLine ∧ P (.list (xs ++ ys))
  | .tuple xs, .tuple ys => xs.length + ys.length ≤ sizeLine ∧ P (.tuple (xs ++ ys))
  | _, _ => False
theorem sqT_le {K : PySem.W.Frag} {Γ : Ct} {ad : Ad} {H : Hp} {a : Addr} {xs : List V} (h : SqT K (msk Γ ad H) a xs) : SqT K H a xs := Same.sqT msk_le h
/-- + -/
def dAdd : D2 := fun x y P => match x, y with
  | .int i, .int j => P (.int (i + j))
  | .list xs, .list ys => xs.length + ys.length ≤ sizeLine ∧ P (.list (xs ++ ys))
  | .tuple xs, .tuple ys => xs.length + ys.length ≤ sizeLine ∧ P (.tuple (xs ++ ys))
  | _, _ => False
def rAddA (K : PySem.W.Frag) : R2 := fun x y H Q => (rI0 fun i j => .int (i + j)) x y H Q ∨ (rCat x y H Q ∨ rCatA K x y H Q)
theorem op_addA {X : Cx} : OpR X (binaryOp .Add) (rAddA X.K) := op_add.or (op_cat.or op_catA)
theorem snd_add : SndR (B := B) (rAddA B.K) dAdd := fun Γ ad σ H x y d e P Q C rx ry h k => by
  unfold dAdd at h
  split at h
  · cases rx; cases ry
    exact .inl ⟨_, _, rfl, rfl, k _ H _ (Same.refl H) (.int _) h⟩
  · cases rx with
    | lst hx ax =>
      cases ry with
      | lst hy ay =>
        refine .inr (.inl ⟨_, _, _, _, rfl, rfl, msk_le _ _ hx, msk_le _ _ hy, ?_, fun p hp => ?_⟩)
        · rw [ax.length, ay.length]; exact h.1
        · exact k _ _ _ (upd_grow hp) (C.rp_lst hp (ax.append ay)) h.2
  · cases rx with
    | tup hx ax =>
      cases ry with
      | tup hy ay =>
        rename_i xs ys a us b ws
        refine .inr (.inr ⟨_, _, us, ws, rfl, rfl, sqT_le hx, sqT_le hy, ?_, fun e1 => ?_, fun e1 e2 => ?_, fun e1 e2 p hp => ?_⟩)
        · rw [ax.length, ay.length]; exact h.1
        · subst e1
          cases ax
          exact k _ H _ (Same.refl H) (.tup hy ay) h.2
        · subst e2
          cases ay
          have h2 := h.2
          rw [List.append_nil] at h2
          exact k _ H _ (Same.refl H) (.tup hx ax) h2
        · exact k _ _ _ (upd_grow hp) (C.rp_tup hp (ax.append ay)) h.2
  · exact h.elim
theorem ee_add {a b : Expr} {wa wb : DE} {pos : Pos} (ha : EE B a wa) (hb : EE B b wb) : EE B (.BinOp a .Add b pos) (eOp dAdd wa wb) :=
  ee_op (fun j => by have e := B.hK j; rw [← e]; exact op_addA) snd_add ha hb
def dSub : D2 := dI (fun _ _ => True) (· - ·)
theorem ee_sub {a b : Expr} {wa wb : DE} {pos : Pos} (ha : EE B a wa) (hb : EE B b wb) : EE B (.BinOp a .Sub b pos) (eOp dSub wa wb) := ee_op (fun _ => op_sub) snd_rI0 ha hb
/-- * : ints, a list by an int -/
def dMul : D2 := fun x y P => match x, y with
  | .int i, .int j => CMulX i j ∧ P (.int (i * j))
  | .list xs, .int k => (k < 2 ^ 63 ∧ -(2 ^ 63) ≤ k ∧ xs.length * k.toNat ≤ sizeLine) ∧ P (.list (List.replicate k.toNat xs).flatten)
  | _, _ => False
def rMulA : R2 := fun x y H Q => (rI CMulX fun i j => .int (i * j)) x y H Q ∨ rRep x y H Q
theorem op_mulA {X : Cx} : OpR X (binaryOp .Mult) rMulA := op_mulX.or op_rep
theorem snd_mul : SndR (B := B) rMulA dMul := fun Γ ad σ H x y d e P Q C rx ry h k => by
  unfold dMul at h
  split at h
  · cases rx; cases ry
    exact .inl ⟨_, _, rfl, rfl, h.1, k _ H _ (Same.refl H) (.int _) h.2⟩
  · cases rx with
    | lst hx ax =>
      cases ry
      refine .inr ⟨_, _, _, rfl, rfl, msk_le _ _ hx, h.1.2.1, h.1.1, ?_, fun p hp => ?_⟩
      · rw [ax.length]; exact h.1.2.2
      · exact k _ _ _ (upd_grow hp) (C.rp_lst hp (ax.rep _)) h.2
  · exact h.elim
theorem ee_mul {a b : Expr} {wa wb : DE} {pos : Pos} (ha : EE B a wa) (hb : EE B b wb) : EE B (.BinOp a .Mult b pos) (eOp dMul wa wb) := ee_op (fun _ => op_mulA) snd_mul ha hb
/-- // by a positive divisor: a small one, or any, where there is room for it -/
def dFdiv (py : Prop) : D2 := dI (fun _ j => 0 < j ∧ (j.natAbs.log2 < 9000 ∨ py)) (· / ·)
def Bd.Pyl (B : Bd) : Prop := ∀ (i : B.ι) (pins : List (Addr × Obj)) (σ : L2.St) (H : Hp) (s : Shared), Inv (B.X i) pins σ H s → PySem.PylongRoom (model (B.X i).prog (B.X i).w) (B.X i).A s
theorem op_fdivG {py : Prop} (hp : py → B.Pyl) (j : B.ι) : OpR (B.X j) (binaryOp .FloorDiv) (rI (fun _ j => 0 < j ∧ (j.natAbs.log2 < 9000 ∨ py)) fun i j => .int (i / j)) := by
  intro pins s σ H x y v u Q I rx ry h
  obtain ⟨a, b, rfl, rfl, ⟨h1, h2⟩, q⟩ := h
  obtain ⟨t, rfl⟩ := rx
  obtain ⟨t', rfl⟩ := ry
  refine PyProof.Rows.floordiv_int (by omega) ?_ ?_
  · rw [Int.fdiv_eq_ediv_of_nonneg a (by omega)]
    exact ⟨.int _, H, I.tok _, ⟨_, rfl⟩, q⟩
  · rcases h2 with h2 | h2
    · exact .inl (PyProof.noPylong_of_log2 h2)
    · exact .inr (hp h2 j pins σ H s I)
theorem ee_fdiv {py : Prop} {a b : Expr} {wa wb : DE} {pos : Pos} (hp : py → B.Pyl) (ha : EE B a wa) (hb : EE B b wb) : EE B (.BinOp a .FloorDiv b pos) (eOp (dFdiv py) wa wb) := ee_op (op_fdivG hp) snd_rI ha hb
def dMod : D2 := dI (fun _ j => 0 < j) (· % ·)
theorem ee_mod {a b : Expr} {wa wb : DE} {pos : Pos} (ha : EE B a wa) (hb : EE B b wb) : EE B (.BinOp a .Mod b pos) (eOp dMod wa wb) := ee_op (fun _ => op_mod) snd_rI ha hb
def dPow : D2 := dI CPow (fun i j => i ^ j.toNat)
theorem ee_pow {a b : Expr} {wa wb : DE} {pos : Pos} (ha : EE B a wa) (hb : EE B b wb) : EE B (.BinOp a .Pow b pos) (eOp dPow wa wb) := ee_op (fun _ => op_pow) snd_rI ha hb
def eNeg (a : DE) : DE := fun Γ P => a Γ fun x => match x with
  | .int i => P (.int (-i))
  | _ => False
theorem ee_neg {a : Expr} {wa : DE} {pos : Pos} (ha : EE B a wa) : EE B (.UnaryOp .USub a pos) (eNeg wa) := by
  obtain ⟨t, p, s⟩ := ha
  refine ⟨_, fun j => pe_un un_neg (p j), fun ad Γ σ H P Q C h k => s ad Γ σ H _ _ C h fun v H' d e r q => ?_⟩
  cases d with
  | int i => cases r; exact ⟨_, rfl, k _ H' _ e (.int _) q⟩
  | _ => exact q.elim

/-! ### comparisons -/
def dLt : D2 := dB fun i j => decide (i < j)
def dLe : D2 := dB fun i j => decide (i ≤ j)
def dGt : D2 := dB fun i j => decide (j < i)
def dGe : D2 := dB fun i j => decide (j ≤ i)
/-- == -/
def dEq : D2 := fun x y P => match x, y with
  | .int i, .int j => P (.bool (decide (i = j)))
  | x, y => (SeqAt.shaped x = true ∧ SeqAt.shaped y = true) ∧ P (.bool (PyData.eqv x y))
def dNe : D2 := fun x y P => match x, y with
  | .int i, .int j => P (.bool (!decide (i = j)))
  | x, y => (SeqAt.shaped x = true ∧ SeqAt.shaped y = true) ∧ P (.bool (!PyData.eqv x y))
def rEqA (K : PySem.W.Frag) : R2 := fun x y H Q => rEq x y H Q ∨ rEqD K x y H Q
def rNeA (K : PySem.W.Frag) : R2 := fun x y H Q => rNe x y H Q ∨ rNeD K x y H Q
theorem dec_vint {i j : Int} : decide (V.int i = V.int j) = decide (i = j) := by
  by_cases h : i = j
  · subst h; simp
  · rw [decide_eq_false h, decide_eq_false fun z => h (V.int.inj z)]
theorem snd_eq : SndR (B := B) (rEqA B.K) dEq := fun Γ ad σ H x y d e P Q C rx ry h k => by
  unfold dEq at h
  split at h
  · cases rx; cases ry
    exact .inl ⟨rfl, by rw [dec_vint]; exact k _ H _ (Same.refl H) (.bl _) h⟩
  · exact .inr ⟨d, e, (rx.mono msk_le).dp, (ry.mono msk_le).dp, h.1.1, h.1.2, k _ H _ (Same.refl H) (.bl _) h.2⟩
theorem snd_ne : SndR (B := B) (rNeA B.K) dNe := fun Γ ad σ H x y d e P Q C rx ry h k => by
  unfold dNe at h
  split at h
  · cases rx; cases ry
    exact .inl ⟨rfl, by rw [dec_vint]; exact k _ H _ (Same.refl H) (.bl _) h⟩
  · exact .inr ⟨d, e, (rx.mono msk_le).dp, (ry.mono msk_le).dp, h.1.1, h.1.2, k _ H _ (Same.refl H) (.bl _) h.2⟩
theorem Bd.un (B : Bd) (j : B.ι) : (B.X j).A.units + 64 < cLine := (B.hr j).units
theorem op_eqA (j : B.ι) : OpR (B.X j) (compareOp .Eq) (rEqA B.K) := by
  have e := B.hK j
  rw [← e]
  exact op_eq.or (op_eqD (B.un j))
theorem op_neA (j : B.ι) : OpR (B.X j) (compareOp .NotEq) (rNeA B.K) := by
  have e := B.hK j
  rw [← e]
  exact op_ne.or (op_neD (B.un j))
section
variable {a b : Expr} {wa wb : DE} {pos : Pos}
theorem ee_lt (ha : EE B a wa) (hb : EE B b wb) : EE B (.Compare a [.Lt] [b] pos) (eOp dLt wa wb) := ee_cmp (fun _ => op_lt) snd_rB ha hb
theorem ee_le (ha : EE B a wa) (hb : EE B b wb) : EE B (.Compare a [.LtE] [b] pos) (eOp dLe wa wb) := ee_cmp (fun _ => op_le) snd_rB ha hb
theorem ee_gt (ha : EE B a wa) (hb : EE B b wb) : EE B (.Compare a [.Gt] [b] pos) (eOp dGt wa wb) := ee_cmp (fun _ => op_gt) snd_rB ha hb
theorem ee_ge (ha : EE B a wa) (hb : EE B b wb) : EE B (.Compare a [.GtE] [b] pos) (eOp dGe wa wb) := ee_cmp (fun _ => op_ge) snd_rB ha hb
theorem ee_eq (ha : EE B a wa) (hb : EE B b wb) : EE B (.Compare a [.Eq] [b] pos) (eOp dEq wa wb) := ee_cmp op_eqA snd_eq ha hb
theorem ee_ne (ha : EE B a wa) (hb : EE B b wb) : EE B (.Compare a [.NotEq] [b] pos) (eOp dNe wa wb) := ee_cmp op_neA snd_ne ha hb
theorem et_lt (ha : EE B a wa) (hb : EE B b wb) : ET B (.Compare a [.Lt] [b] pos) (tBl (eOp dLt wa wb)) := et_cmp (fun _ => op_lt) snd_rB ha hb
theorem et_le (ha : EE B a wa) (hb : EE B b wb) : ET B (.Compare a [.LtE] [b] pos) (tBl (eOp dLe wa wb)) := et_cmp (fun _ => op_le) snd_rB ha hb
theorem et_gt (ha : EE B a wa) (hb : EE B b wb) : ET B (.Compare a [.Gt] [b] pos) (tBl (eOp dGt wa wb)) := et_cmp (fun _ => op_gt) snd_rB ha hb
theorem et_ge (ha : EE B a wa) (hb : EE B b wb) : ET B (.Compare a [.GtE] [b] pos) (tBl (eOp dGe wa wb)) := et_cmp (fun _ => op_ge) snd_rB ha hb
theorem et_eq (ha : EE B a wa) (hb : EE B b wb) : ET B (.Compare a [.Eq] [b] pos) (tBl (eOp dEq wa wb)) := et_cmp op_eqA snd_eq ha hb
theorem et_ne (ha : EE B a wa) (hb : EE B b wb) : ET B (.Compare a [.NotEq] [b] pos) (tBl (eOp dNe wa wb)) := et_cmp op_neA snd_ne ha hb
end
/-- is, of bools -/
def dIs : D2 := fun x y P => match x, y with
  | .bool i, .bool j => P (.bool (decide (i = j)))
  | _, _ => False
def dIsNot : D2 := fun x y P => match x, y with
  | .bool i, .bool j => P (.bool (!decide (i = j)))
  | _, _ => False
theorem snd_is : SndR (B := B) rIsB dIs := fun Γ ad σ H x y d e P Q C rx ry h k => by
  unfold dIs at h
  split at h
  · cases rx; cases ry
    exact ⟨_, _, rfl, rfl, k _ H _ (Same.refl H) (.bl _) h⟩
  · exact h.elim
theorem snd_isnot : SndR (B := B) rNotB dIsNot := fun Γ ad σ H x y d e P Q C rx ry h k => by
  unfold dIsNot at h
  split at h
  · cases rx; cases ry
    exact ⟨_, _, rfl, rfl, k _ H _ (Same.refl H) (.bl _) h⟩
  · exact h.elim
section
variable {a b : Expr} {wa wb : DE} {pos : Pos}
theorem ee_is (ha : EE B a wa) (hb : EE B b wb) : EE B (.Compare a [.Is] [b] pos) (eOp dIs wa wb) := ee_cmp (fun _ => op_isBl) snd_is ha hb
theorem et_is (ha : EE B a wa) (hb : EE B b wb) : ET B (.Compare a [.Is] [b] pos) (tBl (eOp dIs wa wb)) := et_cmp (fun _ => op_isBl) snd_is ha hb
theorem ee_isnot (ha : EE B a wa) (hb : EE B b wb) : EE B (.Compare a [.IsNot] [b] pos) (eOp dIsNot wa wb) := ee_cmp (fun _ => op_notBl) snd_isnot ha hb
theorem et_isnot (ha : EE B a wa) (hb : EE B b wb) : ET B (.Compare a [.IsNot] [b] pos) (tBl (eOp dIsNot wa wb)) := et_cmp (fun _ => op_notBl) snd_isnot ha hb
end
/-- in, of ints in a tuple of ints -/
def intsOf : List D → Option (List Int)
  | [] => some []
  | .int i :: r => (intsOf r).map (i :: ·)
  | _ :: _ => none
def dIn : D2 := fun x y P => match x, y with
  | .int i, .tuple ys => match intsOf ys with
    | some ns => P (.bool (ns.any fun j => decide (j = i)))
    | none => False
  | _, _ => False
theorem ints_rp {K : PySem.W.Frag} {H : Hp} : ∀ {ys : List D} {vs : List V} {ns : List Int}, RpAll K H vs ys → intsOf ys = some ns → vs = ns.map V.int
  | [], _, _, h, e => by cases h; cases e; rfl
  | y :: ys, _, _, h, e => by
    cases h with
    | cons h1 h2 =>
      cases y with
      | int i =>
        cases h1
        unfold intsOf at e
        cases q : intsOf ys with
        | none => rw [q] at e; cases e
        | some ms =>
          rw [q] at e; cases e
          rw [ints_rp h2 q]; rfl
      | _ => cases e
theorem inV_ints (i : Int) : ∀ ns : List Int, inV (.int i) (ns.map V.int) = ns.any fun j => decide (j = i)
  | [] => rfl
  | n :: ns => by
    show (eqV (.int n) (.int i) || inV (.int i) (ns.map V.int)) = (decide (n = i) || ns.any fun j => decide (j = i))
    rw [inV_ints i ns]
    show ((n == i) || _) = _
    rw [Bool.beq_eq_decide_eq]
theorem flat_ints : ∀ ns : List Int, (ns.map V.int).all flatV = true
  | [] => rfl
  | n :: ns => by rw [List.map_cons, List.all_cons, flat_ints ns]; rfl
theorem snd_in : SndR (B := B) (rIn B.K false) dIn := fun Γ ad σ H x y d e P Q C rx ry h k => by
  unfold dIn at h
  split at h
  · split at h
    · rename_i ns hn
      cases rx
      cases ry with
      | tup hy ay =>
        have ev := ints_rp ay hn
        refine ⟨_, _, rfl, .inr (sqT_le hy), rfl, by rw [ev]; exact flat_ints _, ?_⟩
        rw [ev, if_neg Bool.false_ne_true, inV_ints]
        exact k _ H _ (Same.refl H) (.bl _) h
    · exact h.elim
  · exact h.elim
section
variable {a b : Expr} {wa wb : DE} {pos : Pos}
theorem op_inA (j : B.ι) : OpR (B.X j) (compareOp .In) (rIn B.K false) := by
  have e := B.hK j
  rw [← e]
  exact op_in_seq
theorem ee_in (ha : EE B a wa) (hb : EE B b wb) (hm : behindInMarks .In b = false := by rfl) : EE B (.Compare a [.In] [b] pos) (eOp dIn wa wb) := ee_cmp op_inA snd_in ha hb hm
theorem et_in (ha : EE B a wa) (hb : EE B b wb) (hm : behindInMarks .In b = false := by rfl) : ET B (.Compare a [.In] [b] pos) (tBl (eOp dIn wa wb)) := et_cmp op_inA snd_in ha hb hm
end
/-- a < b < c -/
def eChain (w1 w2 : D2) (a b c : DE) : DE := fun Γ P => a Γ fun x => b Γ fun y => w1 x y fun z => match z with
  | .bool true => c Γ fun u => w2 y u P
  | .bool false => P (.bool false)
  | _ => False

/-! ### and, or, not -/
def eAnd (a b : DE) : DE := fun Γ P => a Γ fun x => match x with
  | .bool true => b Γ P
  | .bool false => P (.bool false)
  | _ => False
def eOr (a b : DE) : DE := fun Γ P => a Γ fun x => match x with
  | .bool true => P (.bool true)
  | .bool false => b Γ P
  | _ => False
def eNot (a : DE) : DE := fun Γ P => a Γ fun x => match x with
  | .bool c => P (.bool (!c))
  | _ => False
def tAndD (a b : DT) : DT := fun Γ P => a Γ fun c => match c with
  | true => b Γ P
  | false => P false
def tOrD (a b : DT) : DT := fun Γ P => a Γ fun c => match c with
  | true => P true
  | false => b Γ P
def tNotD (a : DT) : DT := fun Γ P => a Γ fun c => P (!c)
section
variable {a b : Expr} {rest : List Expr} {wa wb : DE} {ua ub : DT} {pos : Pos}
theorem ee_one {op} (h : EE B a wa) : EE B (.BoolOp op [a] pos) wa := let ⟨t, p, s⟩ := h; ⟨t, fun j => pe_one (p j), s⟩
theorem ee_and (ha : EE B a wa) (hb : EE B (.BoolOp .And (b :: rest) pos) wb) : EE B (.BoolOp .And (a :: b :: rest) pos) (eAnd wa wb) := by
  obtain ⟨ta, pa, sa⟩ := ha
  obtain ⟨tb, pb, sb⟩ := hb
  refine ⟨_, fun j => pe_and (pa j) (pb j), fun ad Γ σ H P Q C h k => sa ad Γ σ H _ _ C h fun v H' d e r q => ?_⟩
  cases d with
  | bool c =>
    cases r
    cases c with
    | true => exact ⟨true, rfl, by rw [if_pos rfl]; exact sb ad Γ σ H' _ _ (C.grow e) q fun v2 H2 d2 e2 => k v2 H2 d2 (e.trans e2)⟩
    | false => exact ⟨false, rfl, by rw [if_neg Bool.false_ne_true]; exact k _ H' _ e (.bl _) q⟩
  | _ => exact q.elim
theorem ee_or (ha : EE B a wa) (hb : EE B (.BoolOp .Or (b :: rest) pos) wb) : EE B (.BoolOp .Or (a :: b :: rest) pos) (eOr wa wb) := by
  obtain ⟨ta, pa, sa⟩ := ha
  obtain ⟨tb, pb, sb⟩ := hb
  refine ⟨_, fun j => pe_or (pa j) (pb j), fun ad Γ σ H P Q C h k => sa ad Γ σ H _ _ C h fun v H' d e r q => ?_⟩
  cases d with
  | bool c =>
    cases r
    cases c with
    | true => exact ⟨true, rfl, by rw [if_pos rfl]; exact k _ H' _ e (.bl _) q⟩
    | false => exact ⟨false, rfl, by rw [if_neg Bool.false_ne_true]; exact sb ad Γ σ H' _ _ (C.grow e) q fun v2 H2 d2 e2 => k v2 H2 d2 (e.trans e2)⟩
  | _ => exact q.elim
theorem ee_not (ha : EE B a wa) : EE B (.UnaryOp .Not a pos) (eNot wa) := by
  obtain ⟨ta, pa, sa⟩ := ha
  refine ⟨_, fun j => pe_not (pa j), fun ad Γ σ H P Q C h k => sa ad Γ σ H _ _ C h fun v H' d e r q => ?_⟩
  cases d with
  | bool c => cases r; exact ⟨c, rfl, k _ H' _ e (.bl _) q⟩
  | _ => exact q.elim
theorem ew_pt (h : EW B a ua) : ET B a ua := let ⟨t, p, s⟩ := h; ⟨t, fun j => (p j).pt, s⟩
theorem ew_and1 (h : ET B a ua) : EW B (.BoolOp .And [a] pos) ua := let ⟨t, p, s⟩ := h; ⟨t, fun j => pw_and1 (p j), s⟩
theorem ew_or1 (h : ET B a ua) : EW B (.BoolOp .Or [a] pos) ua := let ⟨t, p, s⟩ := h; ⟨t, fun j => pw_or1 (p j), s⟩
theorem ew_and (ha : ET B a ua) (hb : EW B (.BoolOp .And (b :: rest) pos) ub) : EW B (.BoolOp .And (a :: b :: rest) pos) (tAndD ua ub) := by
  obtain ⟨ta, pa, sa⟩ := ha
  obtain ⟨tb, pb, sb⟩ := hb
  refine ⟨_, fun j => pw_and (pa j) (pb j), fun ad Γ σ H P Q C h k => sa ad Γ σ H _ _ C h fun c H' e q => ?_⟩
  cases c with
  | true => rw [if_pos rfl]; exact sb ad Γ σ H' _ _ (C.grow e) q fun b2 H2 e2 => k b2 H2 (e.trans e2)
  | false => rw [if_neg Bool.false_ne_true]; exact k _ H' e q
theorem ew_or (ha : ET B a ua) (hb : EW B (.BoolOp .Or (b :: rest) pos) ub) : EW B (.BoolOp .Or (a :: b :: rest) pos) (tOrD ua ub) := by
  obtain ⟨ta, pa, sa⟩ := ha
  obtain ⟨tb, pb, sb⟩ := hb
  refine ⟨_, fun j => pw_or (pa j) (pb j), fun ad Γ σ H P Q C h k => sa ad Γ σ H _ _ C h fun c H' e q => ?_⟩
  cases c with
  | true => rw [if_pos rfl]; exact k _ H' e q
  | false => rw [if_neg Bool.false_ne_true]; exact sb ad Γ σ H' _ _ (C.grow e) q fun b2 H2 e2 => k b2 H2 (e.trans e2)
theorem et_not (ha : ET B a ua) : ET B (.UnaryOp .Not a pos) (tNotD ua) := by
  obtain ⟨ta, pa, sa⟩ := ha
  exact ⟨_, fun j => pt_not (pa j), fun ad Γ σ H P Q C h k => sa ad Γ σ H _ _ C h fun c H' e q => k _ H' e q⟩
end

/-! ### argument lists, displays -/
def aNil : DL_ := fun _ P => P []
def aCons (a : DE) (r : DL_) : DL_ := fun Γ P => a Γ fun x => r Γ fun xs => P (x :: xs)
section
variable {e : Expr} {es : List Expr} {wa : DE} {wr : DL_} {pos : Pos}
theorem ea_nil : EA B [] aNil := ⟨tNil, fun _ => pa_nil, fun ad Γ σ H P Q C h k => k _ H _ (Same.refl H) .nil rfl h⟩
theorem ea_cons (ha : EE B e wa) (hr : EA B es wr) (hs : ∀ j, starEach (e :: es) (B.X j).env = (false, eval e (B.X j).env) :: starEach es (B.X j).env := by intro _; rfl) : EA B (e :: es) (aCons wa wr) := by
  obtain ⟨ta, pa, sa⟩ := ha
  obtain ⟨tr, pr, sr⟩ := hr
  exact ⟨_, fun j => pa_cons (pa j) (pr j) (hs j), fun ad Γ σ H P Q C h k => sa ad Γ σ H _ _ C h fun v H1 d e1 r1 q1 => sr ad Γ σ H1 _ _ (C.grow e1) q1 fun vs H2 ds e2 r2 l2 q2 => k _ H2 _ (e1.trans e2) (.cons (r1.mono (msk_same e2)) r2) (congrArg (· + 1) l2) q2⟩
def eTup (a : DL_) : DE := fun Γ P => a Γ fun ds => P (.tuple ds)
def eLst (a : DL_) : DE := fun Γ P => a Γ fun ds => P (.list ds)
def lLst (a : DL_) : DL_ := a
theorem ee_tup {x1} (h : EA B es wr) (hl : es.length ≤ sizeLine := by exact Nat.le_of_ble_eq_true rfl) : EE B (.Tuple es x1 pos) (eTup wr) := by
  obtain ⟨t, p, s⟩ := h
  refine ⟨_, fun j => pe_tup (p j), fun ad Γ σ H P Q C h k => s ad Γ σ H _ _ C h fun vs H1 ds e1 r1 l1 q1 => ⟨by rw [r1.length, l1]; exact hl, fun p hp => ?_⟩⟩
  exact k _ _ _ (e1.trans (upd_grow hp)) ((C.grow e1).rp_tup hp r1) q1
theorem ee_lst (h : EA B es wr) (hl : es.length ≤ sizeLine := by exact Nat.le_of_ble_eq_true rfl) : EE B (.List es pos) (eLst wr) := by
  obtain ⟨t, p, s⟩ := h
  refine ⟨_, fun j => pe_lst (p j), fun ad Γ σ H P Q C h k => s ad Γ σ H _ _ C h fun vs H1 ds e1 r1 l1 q1 => ⟨by rw [r1.length, l1]; exact hl, fun p hp => ?_⟩⟩
  exact k _ _ _ (e1.trans (upd_grow hp)) ((C.grow e1).rp_lst hp r1) q1
theorem but_new {H : Hp} {p : Addr} {o : HO} {Γ : Ct} {ad : Ad} (hp : H p = none) : Same (msk Γ ad H) (but p (msk Γ ad (upd H p o))) := fun b x h => by
  obtain ⟨h1, h2⟩ := msk_of h
  exact but_mk (msk_same (upd_grow hp) _ _ h) (ne_of_none h1 hp)
theorem el_lst (h : EA B es wr) (hl : es.length ≤ sizeLine := by exact Nat.le_of_ble_eq_true rfl) : EL B (.List es pos) (lLst wr) := by
  obtain ⟨t, p, s⟩ := h
  refine ⟨_, fun j => pe_lst (p j), fun ad Γ σ H P Q C h k => s ad Γ σ H _ _ C h fun vs H1 ds e1 r1 l1 q1 => ⟨by rw [r1.length, l1]; exact hl, fun p hp => ?_⟩⟩
  exact k _ _ _ _ (e1.trans (upd_grow hp)) (e1.free hp) upd_same (r1.mono (but_new hp)) q1
end
/-- [..] * k, a new list that will be filled -/
def dRepL (P : List D → Prop) : D → D → Prop := fun x y => match x, y with
  | .list xs, .int k => (k < 2 ^ 63 ∧ -(2 ^ 63) ≤ k ∧ xs.length * k.toNat ≤ sizeLine) ∧ P (List.replicate k.toNat xs).flatten
  | _, _ => False
def lRep (a b : DE) : DL_ := fun Γ P => a Γ fun x => b Γ fun y => dRepL P x y
theorem el_rep {a b : Expr} {wa wb : DE} {pos : Pos} (ha : EE B a wa) (hb : EE B b wb) : EL B (.BinOp a .Mult b pos) (lRep wa wb) := by
  obtain ⟨ta, pa, sa⟩ := ha
  obtain ⟨tb, pb, sb⟩ := hb
  refine ⟨_, fun j => pe_op op_rep (pa j) (pb j), fun ad Γ σ H P Q C h k => sa ad Γ σ H _ _ C h fun x H1 d e1 r1 q1 => sb ad Γ σ H1 _ _ (C.grow e1) q1 fun y H2 e e2 r2 q2 => ?_⟩
  unfold dRepL at q2
  split at q2
  · cases r1 with
    | lst hx ax =>
      cases r2
      refine ⟨_, _, _, rfl, rfl, e2 _ _ (msk_le _ _ hx), q2.1.2.1, q2.1.1, ?_, fun p hp => ?_⟩
      · rw [ax.length]; exact q2.1.2.2
      · exact k _ _ _ _ ((e1.trans e2).trans (upd_grow hp)) (e1.free (e2.free hp)) upd_same (((ax.mono (msk_same e2)).rep _).mono (but_new hp)) q2.2
  · exact q2.elim
end
end DL

set_option Elab.async false
set_option linter.all false
set_option maxRecDepth 100000
set_option maxHeartbeats 2000000
namespace DL
open PySem PySem.Spec L2
set_option autoImplicit false
section
variable {B : Bd}

/-! ### subscripts, slices -/
def ixD (ds : List D) (i : Int) (P : D → Prop) : Prop := match atI ds i with
  | some v => P v
  | none => False
def dIx : D2 := fun x y P => match x, y with
  | .list ds, .int i => ixD ds i P
  | .tuple ds, .int i => ixD ds i P
  | _, _ => False
theorem rpAll_at {K : PySem.W.Frag} {H : Hp} {vs : List V} {ds : List D} {i : Int} {d : D} (r : RpAll K H vs ds) (e : atI ds i = some d) : ∃ v, atI vs i = some v ∧ Rp K H v d := by
  unfold atI at e ⊢
  rw [r.length]
  cases q : ixN ds.length i with
  | none => rw [q] at e; cases e
  | some j =>
    rw [q] at e
    exact r.get e
theorem snd_ix : SndR (B := B) (rIx B.K) dIx := fun Γ ad σ H x y d e P Q C rx ry h k => by
  unfold dIx at h
  split at h
  · unfold ixD at h
    split at h
    · rename_i d' hd
      cases ry
      cases rx with
      | lst hx ax =>
        obtain ⟨v, h1, h2⟩ := rpAll_at ax hd
        exact .inl ⟨_, _, _, v, rfl, rfl, SqL.of (msk_le _ _ hx), h1, k v H _ (Same.refl H) h2 h⟩
    · exact h.elim
  · unfold ixD at h
    split at h
    · rename_i d' hd
      cases ry
      cases rx with
      | tup hx ax =>
        obtain ⟨v, h1, h2⟩ := rpAll_at ax hd
        exact .inr (.inl ⟨_, _, _, v, rfl, rfl, sqT_le hx, h1, k v H _ (Same.refl H) h2 h⟩)
    · exact h.elim
  · exact h.elim
theorem ix_seqA (j : B.ι) : IxR (B.X j) (rIx B.K) := by
  have e := B.hK j
  rw [← e]
  exact ix_seq
theorem ee_ix {a b : Expr} {wa wb : DE} {pos : Pos} (ha : EE B a wa) (hb : EE B b wb) (hs : PlainIx b := by exact fun _ _ => rfl) : EE B (.Subscript a b pos) (eOp dIx wa wb) := by
  obtain ⟨ta, pa, sa⟩ := ha
  obtain ⟨tb, pb, sb⟩ := hb
  exact ⟨_, fun j => pe_ix (ix_seqA j) (pa j) (pb j) hs, snd_op snd_ix sa sb⟩
/-- an item of a list that is being filled -/
def eIxO (i : Nat) (b : DE) : DE := fun Γ P => match Γ[i]? with
  | some (.own ds) => b Γ fun y => match y with
    | .int k => ixD ds k P
    | _ => False
  | _ => False
theorem ee_ixO (i : Nat) {x : Str} {b : Expr} {wb : DE} {pos p2 : Pos} (hb : EE B b wb) (hN : B.N[i]? = some x := by rfl) (hv : ∀ j, Vis (B.X j).env.scope x := by intro _; first | exact Or.inl rfl | exact Or.inr (Or.inl rfl) | exact Or.inr (Or.inr rfl))
    (hd : (x == ("__debug__" : Str)) = false := by decide) (hcd : (x == ("__classdict__" : Str)) = false := by decide) (hs : PlainIx b := by exact fun _ _ => rfl) : EE B (.Subscript (.Name x p2) b pos) (eIxO i wb) := by
  obtain ⟨tb, pb, sb⟩ := hb
  refine ⟨_, fun j => pe_ix (ix_seqA j) (pe_var (i := i) (by rw [B.hN]; exact hN) (hv j) hd hcd) (pb j) hs, fun ad Γ σ H P Q C h k => ?_⟩
  unfold eIxO at h
  split at h
  · rename_i ds hi
    obtain ⟨h1, vs, h2, h3⟩ := C.own i ds hi
    refine ⟨_, h1, sb ad Γ σ H _ _ C h fun y H1 e e1 r q => ?_⟩
    cases e with
    | int k' =>
      cases r
      have q' : ixD ds k' P := q
      unfold ixD at q'
      split at q'
      · rename_i d' hd'
        obtain ⟨v, g1, g2⟩ := rpAll_at (h3.mono (msk_same e1)) hd'
        exact .inl ⟨_, _, _, v, rfl, rfl, SqL.of (e1 _ _ h2), g1, k v H1 _ e1 g2 q'⟩
      · exact q'.elim
    | _ => exact q.elim
  · exact h.elim
def cutD (ds : List D) (lo hi : Option Int) : List D := (ds.drop (HT.sIx ds.length 0 lo)).take (HT.sIx ds.length ds.length hi - HT.sIx ds.length 0 lo)
theorem RpAll.cut {K : PySem.W.Frag} {H : Hp} {vs : List V} {ds : List D} (r : RpAll K H vs ds) (lo hi : Option Int) : RpAll K H (cutV vs lo hi) (cutD ds lo hi) := by
  unfold cutV cutD
  rw [r.length]
  exact (r.drop _).take _
def dSl (P : D → Prop) (lo hi : Option Int) : D → Prop
  | .list ds => P (.list (cutD ds lo hi))
  | .tuple ds => P (.tuple (cutD ds lo hi))
  | _ => False
abbrev DO := Ct → (Option Int → Prop) → Prop
def SndO (B : Bd) (t : TO) (w : DO) : Prop := ∀ (ad : Ad) (Γ : Ct) (σ : L2.St) (H : Hp) (P : Option Int → Prop) (Q : Option Int → Hp → Prop), Cq B.K B.F ad Γ σ H → w Γ P → (∀ o H', Same H H' → P o → Q o H') → t σ H Q
def EO (B : Bd) (e : Option Expr) (w : DO) : Prop := ∃ t, (∀ i, PO (B.X i) e t) ∧ SndO B t w
def oNo : DO := fun _ P => P none
def oSome (a : DE) : DO := fun Γ P => a Γ fun x => match x with
  | .int i => P (some i)
  | _ => False
theorem eo_no : EO B none oNo := ⟨_, fun _ => po_none, fun ad Γ σ H P Q C h k => k _ H (Same.refl H) h⟩
theorem eo_some {e : Expr} {w : DE} (h : EE B e w) : EO B (some e) (oSome w) := by
  obtain ⟨t, p, s⟩ := h
  refine ⟨_, fun j => po_some (p j), fun ad Γ σ H P Q C h k => s ad Γ σ H _ _ C h fun v H' d e r q => ?_⟩
  cases d with
  | int i => cases r; exact ⟨_, rfl, k _ H' e q⟩
  | _ => exact q.elim
def eSl (a : DE) (l u : DO) : DE := fun Γ P => a Γ fun x => l Γ fun lo => u Γ fun hi => dSl P lo hi x
def rSlB (K : PySem.W.Frag) : V → Option Int → Option Int → Hp → VK → Prop := fun x lo hi H Q => rSlL K x lo hi H Q ∨ rSlA K x lo hi H Q
theorem cutV_whole {vs : List V} {lo hi : Option Int} (h : HT.sIx vs.length 0 lo = 0 ∧ HT.sIx vs.length vs.length hi = vs.length) : cutV vs lo hi = vs := by
  unfold cutV
  rw [h.1, h.2, Nat.sub_zero, List.drop_zero, List.take_length]
theorem ee_sl {e : Expr} {lo hi : Option Expr} {we : DE} {wl wh : DO} {p2 pos : Pos} (he : EE B e we) (hl : EO B lo wl) (hh : EO B hi wh) : EE B (.Subscript e (.Slice lo hi none p2) pos) (eSl we wl wh) := by
  obtain ⟨te, pe, se⟩ := he
  obtain ⟨tl, pl, sl⟩ := hl
  obtain ⟨th, ph, sh⟩ := hh
  refine ⟨tSl (rSlB B.K) te tl th, fun j => ?_, fun ad Γ σ H P Q C h k => se ad Γ σ H _ _ C h fun x H1 d e1 r1 q1 => sl ad Γ σ H1 _ _ (C.grow e1) q1 fun l H2 e2 q2 => sh ad Γ σ H2 _ _ ((C.grow e1).grow e2) q2 fun u H3 e3 q3 => ?_⟩
  · have e := B.hK j
    rw [← e]
    exact pe_slice (sl_list.or sl_tupA) (pe j) (pl j) (ph j)
  · have C3 := ((C.grow e1).grow e2).grow e3
    have e13 := e1.trans (e2.trans e3)
    cases d with
    | list ds =>
      cases r1 with
      | lst hx ax =>
        have ax3 := ax.mono (msk_same (e2.trans e3))
        exact .inl ⟨_, _, rfl, SqL.of (e3 _ _ (e2 _ _ (msk_le _ _ hx))), fun p hp => k _ _ _ (e13.trans (upd_grow hp)) (C3.rp_lst hp (ax3.cut l u)) q3⟩
    | tuple ds =>
      cases r1 with
      | tup hx ax =>
        have hx3 := Same.sqT (msk_same (e2.trans e3)) hx
        have ax3 := ax.mono (msk_same (e2.trans e3))
        refine .inr ⟨_, _, rfl, sqT_le hx3, fun hw => ?_, fun hw p hp => k _ _ _ (e13.trans (upd_grow hp)) (C3.rp_tup hp (ax3.cut l u)) q3⟩
        have ac := ax3.cut l u
        rw [cutV_whole hw] at ac
        exact k _ H3 _ e13 (.tup hx3 ac) q3
    | _ => exact q3.elim

/-! ### calls of defs -/
inductive Res where
  | ok (d : D)
  | err (g : Nat)
/-- the promise of a def that is a relation of data; S: lists that are being filled meanwhile, and are not known here -/
def spR (K : PySem.W.Frag) (cl : Nat → Addr) (R : List D → Res → Prop) : Sp := fun vs H Q E => ∃ ds r S, RpAll K (hide S H) vs ds ∧ (∀ b, S b → ∃ ws, H b = some (.lst ws)) ∧ R ds r ∧ match r with
  | .ok d => ∀ v H', Same H H' → Rp K (hide S H') v d → Q v H'
  | .err g => ∀ H', Same H H' → E (.ref (cl g)) none H'
structure Cl (P : Program) (w : World) (K : PySem.W.Frag) (mg : Str → Option Value) (base : Heap) (cl : Nat → Addr) (k : Nat) (x : Str) (R : List D → Res → Prop) : Prop where
  ex : ∃ f fd ps, FnOk P w K mg base (L2.CX P w) k f fd ps (spR K cl R) ∧ mg x = some (.ref f) ∧ PySem.W.keepIn K (.ref f) = true ∧ Binds K fd ps []
def eCall (Ex : Nat → Prop) (R : List D → Res → Prop) (a : DL_) : DE := fun Γ P => a Γ fun ds => ∃ r, R ds r ∧ match r with
  | .ok d => P d
  | .err g => Ex g
theorem ee_call {k : Nat} {x : Str} {R : List D → Res → Prop} {e : Expr} {es : List Expr} {wa : DL_} {p pos : Pos} (G : Cl B.P B.w B.K B.mg B.base B.F.cl k x R) (ha : EA B (e :: es) wa) (hk : k ≤ B.k := by exact Nat.le_of_ble_eq_true rfl) (hg : ∀ j, Gl (B.X j) x := by intro _; rfl)
    (hdb : (x == ("__debug__" : Str)) = false := by decide) (he : ∀ j, starEach (e :: es) (B.X j).env = (false, eval e (B.X j).env) :: starEach es (B.X j).env := by intro _; rfl) (hpl : ∀ j, (backTo pos (starEach es (B.X j).env)).any (·.1) = false := by intro _; rfl) :
    EE B (.Call (.Name x p) (e :: es) [] pos) (eCall B.F.Ex R wa) := by
  obtain ⟨ta, pa, sa⟩ := ha
  obtain ⟨f, fd, ps, F, hm, hkp, hb⟩ := G.ex
  refine ⟨tCall (spR B.K B.F.cl R) [] B.F.Wx ta, fun j => ?_, fun ad Γ σ H P Q C h k => ?_⟩
  · have e1 := B.hP j
    have e2 := B.hw j
    have e3 := B.hK j
    have e4 := B.hmg j
    have e5 := B.hbase j
    have ps' := B.pass j
    rw [← e1, ← e2, ← e3, ← e4, ← e5] at F
    rw [← e1, ← e2] at ps'
    rw [← e3] at hkp hb
    rw [← e4] at hm
    have F' : FnOk (B.X j).prog (B.X j).w (B.X j).K (B.X j).mg (B.X j).base (L2.CX (B.X j).prog (B.X j).w) k f fd ps (spR B.K B.F.cl R) := by
      rw [← e3]; exact F
    exact pe_call F' ((B.hr j).mono hk) (hg j) hm hkp hb .nil ps' (pa j) hdb (he j) (hpl j)
  · refine sa ad Γ σ H _ _ C h fun vs H1 ds e1 r1 _ q1 => ?_
    show spR B.K B.F.cl R (vs ++ []) H1 Q B.F.Wx
    rw [List.append_nil]
    obtain ⟨r, hR, q1⟩ := q1
    have C1 := C.grow e1
    refine ⟨ds, r, Owned Γ ad, r1, fun b hb => C1.owned_some hb, hR, ?_⟩
    cases r with
    | ok d => exact fun v H' e2 r2 => k v H' d (e1.trans e2) r2 q1
    | err g => exact fun H' e2 => B.F.good g H' (C1.same.trans e2) q1
end
end DL

set_option Elab.async false
set_option linter.all false
set_option maxRecDepth 100000
set_option maxHeartbeats 2000000
namespace DL
open PySem PySem.Spec L2
set_option autoImplicit false
section
variable {B : Bd}

/-! ### built-ins by name -/
abbrev DC := List D → (D → Prop) → Prop
def SndC (B : Bd) (r : List V → Hp → VK → Prop) (w : DC) : Prop := ∀ (Γ : Ct) (ad : Ad) (σ : L2.St) (H : Hp) (xs : List V) (ds : List D) (P : D → Prop) (Q : VK), Cq B.K B.F ad Γ σ H → RpAll B.K (msk Γ ad H) xs ds → w ds P →
  (∀ v H' d', Same H H' → Rp B.K (msk Γ ad H') v d' → P d' → Q v H') → r xs H Q
def eCB (w : DC) (a : DL_) : DE := fun Γ P => a Γ fun ds => w ds P
section
variable {x id T : Str} {e : Expr} {es : List Expr} {wa : DL_} {w : DC} {p pos : Pos} {r : List V → Hp → VK → Prop}
theorem ee_cb {i : String} (hc : ∀ j, CallR (B.X j) (.builtin i) r) (hs : SndC B r w) (ha : EA B (e :: es) wa) (hm : B.mg x = none) (hv : bootBuiltins x = some (.builtin i)) (hg : ∀ j, Gl (B.X j) x := by intro _; rfl) (hn : x ≠ "__name__" := by decide) (hdb : (x == ("__debug__" : Str)) = false := by decide)
    (he : ∀ j, starEach (e :: es) (B.X j).env = (false, eval e (B.X j).env) :: starEach es (B.X j).env := by intro _; rfl) (hpl : ∀ j, (backTo pos (starEach es (B.X j).env)).any (·.1) = false := by intro _; rfl) : EE B (.Call (.Name x p) (e :: es) [] pos) (eCB w wa) := by
  obtain ⟨ta, pa, sa⟩ := ha
  exact ⟨_, fun j => pe_callB (hc j) (hg j) (by rw [B.hmg]; exact hm) hv (pa j) hn hdb (he j) (hpl j), fun ad Γ σ H P Q C h k => sa ad Γ σ H _ _ C h fun vs H1 ds e1 r1 _ q1 =>
    hs Γ ad σ H1 vs ds _ _ (C.grow e1) r1 q1 fun v H' d e2 => k v H' d (e1.trans e2)⟩
theorem ee_ct {i : String} (hc : ∀ j, CallR (B.X j) (.type i) r) (hs : SndC B r w) (ha : EA B (e :: es) wa) (hm : B.mg x = none) (hv : bootBuiltins x = some (.type i)) (hg : ∀ j, Gl (B.X j) x := by intro _; rfl) (hn : x ≠ "__name__" := by decide) (hdb : (x == ("__debug__" : Str)) = false := by decide)
    (he : ∀ j, starEach (e :: es) (B.X j).env = (false, eval e (B.X j).env) :: starEach es (B.X j).env := by intro _; rfl) (hpl : ∀ j, (backTo pos (starEach es (B.X j).env)).any (·.1) = false := by intro _; rfl) : EE B (.Call (.Name x p) (e :: es) [] pos) (eCB w wa) := by
  obtain ⟨ta, pa, sa⟩ := ha
  exact ⟨_, fun j => pe_callTy (hc j) (hg j) (by rw [B.hmg]; exact hm) hv (pa j) hn hdb (he j) (hpl j), fun ad Γ σ H P Q C h k => sa ad Γ σ H _ _ C h fun vs H1 ds e1 r1 _ q1 =>
    hs Γ ad σ H1 vs ds _ _ (C.grow e1) r1 q1 fun v H' d e2 => k v H' d (e1.trans e2)⟩
end
/-- len -/
def cLen : DC := fun ds P => match ds with
  | [.list xs] => P (.int xs.length)
  | [.tuple xs] => P (.int xs.length)
  | _ => False
theorem snd_len : SndC B (fun xs H Q => ∃ p ys, xs = [.ref p] ∧ (SqL B.K H p ys ∨ SqT B.K H p ys) ∧ Q (.int ys.length) H) cLen := fun Γ ad σ H xs ds P Q C r h k => by
  unfold cLen at h
  split at h
  · cases r with
    | cons r1 r2 =>
      cases r2
      cases r1 with
      | lst hx ax => exact ⟨_, _, rfl, .inl (SqL.of (msk_le _ _ hx)), by rw [ax.length]; exact k _ H _ (Same.refl H) (.int _) h⟩
  · cases r with
    | cons r1 r2 =>
      cases r2
      cases r1 with
      | tup hx ax => exact ⟨_, _, rfl, .inr (sqT_le hx), by rw [ax.length]; exact k _ H _ (Same.refl H) (.int _) h⟩
  · exact h.elim
theorem ee_len {e : Expr} {wa : DE} {p pos : Pos} (hm : B.mg "len" = none) (ha : EE B e wa) (hg : ∀ j, Gl (B.X j) "len" := by intro _; rfl) (hs : ∀ j, starEach (e :: []) (B.X j).env = (false, eval e (B.X j).env) :: starEach [] (B.X j).env := by intro _; rfl) :
    EE B (.Call (.Name "len" p) [e] [] pos) (eCB cLen (aCons wa aNil)) :=
  ee_cb (fun j => by have e := B.hK j; rw [← e]; exact call_len_seq) snd_len (ea_cons ha ea_nil hs) hm PySem.boot_len hg (by decide) (by decide) hs (fun _ => rfl)
def rLenQ (K : PySem.W.Frag) : List V → Hp → VK → Prop := fun xs H Q => ∃ p ys, xs = [.ref p] ∧ (SqL K H p ys ∨ SqT K H p ys) ∧ Q (.int ys.length) H
theorem call_lenQ (j : B.ι) : CallR (B.X j) (.builtin "len") (rLenQ B.K) := by
  have e := B.hK j
  rw [← e]
  exact call_len_seq
/-- len of a list that is being filled, of the script -/
def eLenO (i : Nat) : DE := fun Γ P => match Γ[i]? with
  | some (.own ds) => P (.int ds.length)
  | some (.scr ns) => P (.int ns.length)
  | _ => False
theorem ee_lenO (i : Nat) {x : Str} {p p2 pos : Pos} (hm : B.mg "len" = none) (hN : B.N[i]? = some x := by rfl) (hv : ∀ j, Vis (B.X j).env.scope x := by intro _; first | exact Or.inl rfl | exact Or.inr (Or.inl rfl) | exact Or.inr (Or.inr rfl))
    (hd : (x == ("__debug__" : Str)) = false := by decide) (hcd : (x == ("__classdict__" : Str)) = false := by decide) (hg : ∀ j, Gl (B.X j) "len" := by intro _; rfl) : EE B (.Call (.Name "len" p) [.Name x p2] [] pos) (eLenO i) := by
  refine ⟨tCB (rLenQ B.K) (tCons (tVar i) tNil), fun j => pe_callB (call_lenQ j) (hg j) (by rw [B.hmg]; exact hm) PySem.boot_len (pa_cons (pe_var (i := i) (by rw [B.hN]; exact hN) (hv j) hd hcd) pa_nil (by rfl)) (by decide) (by decide) (by rfl) (by rfl), fun ad Γ σ H P Q C h k => ?_⟩
  unfold eLenO at h
  split at h
  · rename_i ds hi
    obtain ⟨h1, vs, h2, h3⟩ := C.own i ds hi
    exact ⟨_, h1, _, _, rfl, .inl (SqL.of h2), by rw [h3.length]; exact k _ H _ (Same.refl H) (.int _) h⟩
  · rename_i ns hi
    obtain ⟨a, h1, h2⟩ := C.scr i ns hi
    refine ⟨_, h1, _, _, rfl, .inl (msk_le.seq h2), ?_⟩
    rw [List.length_map]
    exact k _ H _ (Same.refl H) (.int _) h
  · exact h.elim
/-- an item of the script -/
def eScr (i : Nat) (b : DE) : DE := fun Γ P => match Γ[i]? with
  | some (.scr ns) => b Γ fun y => match y with
    | .int k => match atI ns k with
      | some n => P (.int n)
      | none => False
    | _ => False
  | _ => False
theorem atI_map {ns : List Int} {k n : Int} (h : atI ns k = some n) : atI (ns.map V.int) k = some (.int n) := by
  unfold atI at h ⊢
  rw [List.length_map]
  cases q : ixN ns.length k with
  | none => rw [q] at h; cases h
  | some j =>
    rw [q] at h
    have h' : ns[j]? = some n := h
    show (ns.map V.int)[j]? = _
    rw [List.getElem?_map, h']
    rfl
theorem ee_scr (i : Nat) {x : Str} {b : Expr} {wb : DE} {pos p2 : Pos} (hb : EE B b wb) (hN : B.N[i]? = some x := by rfl) (hv : ∀ j, Vis (B.X j).env.scope x := by intro _; first | exact Or.inl rfl | exact Or.inr (Or.inl rfl) | exact Or.inr (Or.inr rfl))
    (hd : (x == ("__debug__" : Str)) = false := by decide) (hcd : (x == ("__classdict__" : Str)) = false := by decide) (hs : PlainIx b := by exact fun _ _ => rfl) : EE B (.Subscript (.Name x p2) b pos) (eScr i wb) := by
  obtain ⟨tb, pb, sb⟩ := hb
  refine ⟨_, fun j => pe_ix (ix_seqA j) (pe_var (i := i) (by rw [B.hN]; exact hN) (hv j) hd hcd) (pb j) hs, fun ad Γ σ H P Q C h k => ?_⟩
  unfold eScr at h
  split at h
  · rename_i ns hi
    obtain ⟨a, h1, h2⟩ := C.scr i ns hi
    refine ⟨_, h1, sb ad Γ σ H _ _ C h fun y H1 e e1 r q => ?_⟩
    cases e with
    | int k' =>
      cases r
      have q' : match atI ns k' with
        | some n => P (.int n)
        | none => False := q
      split at q'
      · rename_i n hn
        exact .inl ⟨_, _, _, _, rfl, rfl, e1.seq (msk_le.seq h2), atI_map hn, k _ H1 _ e1 (.int _) q'⟩
      · exact q'.elim
    | _ => exact q.elim
  · exact h.elim
/-- abs, max, min -/
def cAbs : DC := fun ds P => match ds with
  | [.int i] => P (.int (if i < 0 then -i else i))
  | _ => False
def cMax : DC := fun ds P => match ds with
  | [.int i, .int j] => P (.int (if j > i then j else i))
  | _ => False
def cMin : DC := fun ds P => match ds with
  | [.int i, .int j] => P (.int (if j < i then j else i))
  | _ => False
theorem snd_abs : SndC B (fun xs H Q => ∃ i, xs = [.int i] ∧ Q (.int (if i < 0 then -i else i)) H) cAbs := fun Γ ad σ H xs ds P Q C r h k => by
  unfold cAbs at h
  split at h
  · cases r with
    | cons r1 r2 =>
      cases r1; cases r2
      exact ⟨_, rfl, k _ H _ (Same.refl H) (.int _) h⟩
  · exact h.elim
theorem snd_max : SndC B (fun xs H Q => ∃ i j, xs = [.int i, .int j] ∧ Q (.int (if j > i then j else i)) H) cMax := fun Γ ad σ H xs ds P Q C r h k => by
  unfold cMax at h
  split at h
  · cases r with
    | cons r1 r2 =>
      cases r2 with
      | cons r2 r3 =>
        cases r1; cases r2; cases r3
        exact ⟨_, _, rfl, k _ H _ (Same.refl H) (.int _) h⟩
  · exact h.elim
theorem snd_min : SndC B (fun xs H Q => ∃ i j, xs = [.int i, .int j] ∧ Q (.int (if j < i then j else i)) H) cMin := fun Γ ad σ H xs ds P Q C r h k => by
  unfold cMin at h
  split at h
  · cases r with
    | cons r1 r2 =>
      cases r2 with
      | cons r2 r3 =>
        cases r1; cases r2; cases r3
        exact ⟨_, _, rfl, k _ H _ (Same.refl H) (.int _) h⟩
  · exact h.elim
theorem boot_b (x : Str) (i : String) (h : bootBuiltins x = some (.builtin i)) : bootBuiltins x = some (.builtin i) := h
section
variable {e : Expr} {es : List Expr} {wa : DL_} {p pos : Pos}
theorem ee_abs (hm : B.mg "abs" = none) (ha : EA B (e :: es) wa) (hg : ∀ j, Gl (B.X j) "abs" := by intro _; rfl) (he : ∀ j, starEach (e :: es) (B.X j).env = (false, eval e (B.X j).env) :: starEach es (B.X j).env := by intro _; rfl) (hpl : ∀ j, (backTo pos (starEach es (B.X j).env)).any (·.1) = false := by intro _; rfl) :
    EE B (.Call (.Name "abs" p) (e :: es) [] pos) (eCB cAbs wa) := ee_cb (fun _ => call_abs) snd_abs ha hm (by decide +kernel) hg (by decide) (by decide) he hpl
theorem ee_max (hm : B.mg "max" = none) (ha : EA B (e :: es) wa) (hg : ∀ j, Gl (B.X j) "max" := by intro _; rfl) (he : ∀ j, starEach (e :: es) (B.X j).env = (false, eval e (B.X j).env) :: starEach es (B.X j).env := by intro _; rfl) (hpl : ∀ j, (backTo pos (starEach es (B.X j).env)).any (·.1) = false := by intro _; rfl) :
    EE B (.Call (.Name "max" p) (e :: es) [] pos) (eCB cMax wa) := ee_cb (fun j => call_max2 (B.calm j)) snd_max ha hm (by decide +kernel) hg (by decide) (by decide) he hpl
theorem ee_min (hm : B.mg "min" = none) (ha : EA B (e :: es) wa) (hg : ∀ j, Gl (B.X j) "min" := by intro _; rfl) (he : ∀ j, starEach (e :: es) (B.X j).env = (false, eval e (B.X j).env) :: starEach es (B.X j).env := by intro _; rfl) (hpl : ∀ j, (backTo pos (starEach es (B.X j).env)).any (·.1) = false := by intro _; rfl) :
    EE B (.Call (.Name "min" p) (e :: es) [] pos) (eCB cMin wa) := ee_cb (fun j => call_min2 (B.calm j)) snd_min ha hm (by decide +kernel) hg (by decide) (by decide) he hpl
end
/-- tuple(x), list(x), int(x), sum(xs) -/
def cTuple : DC := fun ds P => match ds with
  | [.list xs] => P (.tuple xs)
  | [.tuple xs] => P (.tuple xs)
  | _ => False
def cList : DC := fun ds P => match ds with
  | [.list xs] => P (.list xs)
  | [.tuple xs] => P (.list xs)
  | _ => False
def cInt : DC := fun ds P => match ds with
  | [.int i] => P (.int i)
  | [.bool b] => P (.int (if b then 1 else 0))
  | _ => False
def cSum : DC := fun ds P => match ds with
  | [.list xs] => match intsOf xs with
    | some ns => P (.int ns.sum)
    | none => False
  | _ => False
def rTupQ (K : PySem.W.Frag) : List V → Hp → VK → Prop := fun xs H Q => ∃ p ys, xs = [.ref p] ∧ ((SqL K H p ys ∧ ∀ l, H l = none → Q (.ref l) (upd H l (.tup ys))) ∨ (SqT K H p ys ∧ Q (.ref p) H))
def rLstQ (K : PySem.W.Frag) : List V → Hp → VK → Prop := fun xs H Q => ∃ p ys, xs = [.ref p] ∧ (SqL K H p ys ∨ SqT K H p ys) ∧ ∀ l, H l = none → Q (.ref l) (upd H l (.lst ys))
theorem snd_tuple : SndC B (rTupQ B.K) cTuple := fun Γ ad σ H xs ds P Q C r h k => by
  unfold cTuple at h
  split at h
  · cases r with
    | cons r1 r2 =>
      cases r2
      cases r1 with
      | lst hx ax => exact ⟨_, _, rfl, .inl ⟨SqL.of (msk_le _ _ hx), fun l hl => k _ _ _ (upd_grow hl) (C.rp_tup hl ax) h⟩⟩
  · cases r with
    | cons r1 r2 =>
      cases r2
      cases r1 with
      | tup hx ax => exact ⟨_, _, rfl, .inr ⟨sqT_le hx, k _ H _ (Same.refl H) (.tup hx ax) h⟩⟩
  · exact h.elim
theorem snd_list : SndC B (rLstQ B.K) cList := fun Γ ad σ H xs ds P Q C r h k => by
  unfold cList at h
  split at h
  · cases r with
    | cons r1 r2 =>
      cases r2
      cases r1 with
      | lst hx ax => exact ⟨_, _, rfl, .inl (SqL.of (msk_le _ _ hx)), fun l hl => k _ _ _ (upd_grow hl) (C.rp_lst hl ax) h⟩
  · cases r with
    | cons r1 r2 =>
      cases r2
      cases r1 with
      | tup hx ax => exact ⟨_, _, rfl, .inr (sqT_le hx), fun l hl => k _ _ _ (upd_grow hl) (C.rp_lst hl ax) h⟩
  · exact h.elim
theorem snd_int : SndC B (fun xs H Q => (∃ i, xs = [.int i] ∧ Q (.int i) H) ∨ ∃ k, xs = [.bl k] ∧ Q (.int (if k then 1 else 0)) H) cInt := fun Γ ad σ H xs ds P Q C r h k => by
  unfold cInt at h
  split at h
  · cases r with
    | cons r1 r2 =>
      cases r1; cases r2
      exact .inl ⟨_, rfl, k _ H _ (Same.refl H) (.int _) h⟩
  · cases r with
    | cons r1 r2 =>
      cases r1; cases r2
      exact .inr ⟨_, rfl, k _ H _ (Same.refl H) (.int _) h⟩
  · exact h.elim
theorem snd_sum : SndC B (rSum B.K) cSum := fun Γ ad σ H xs ds P Q C r h k => by
  unfold cSum at h
  split at h
  · split at h
    · rename_i ns hn
      cases r with
      | cons r1 r2 =>
        cases r2
        cases r1 with
        | lst hx ax =>
          have ev := ints_rp ax hn
          subst ev
          exact ⟨_, ns, rfl, SqL.of (msk_le _ _ hx), k _ H _ (Same.refl H) (.int _) h⟩
    · exact h.elim
  · exact h.elim
section
variable {e : Expr} {es : List Expr} {wa : DL_} {p pos : Pos}
theorem ee_tuple (hm : B.mg "tuple" = none) (ha : EA B (e :: es) wa) (hg : ∀ j, Gl (B.X j) "tuple" := by intro _; rfl) (he : ∀ j, starEach (e :: es) (B.X j).env = (false, eval e (B.X j).env) :: starEach es (B.X j).env := by intro _; rfl) (hpl : ∀ j, (backTo pos (starEach es (B.X j).env)).any (·.1) = false := by intro _; rfl) :
    EE B (.Call (.Name "tuple" p) (e :: es) [] pos) (eCB cTuple wa) := ee_ct (i := "tuple") (r := rTupQ B.K) (fun j => by have q := B.hK j; rw [← q]; exact call_tuple_of) snd_tuple ha hm (by decide +kernel) hg (by decide) (by decide) he hpl
theorem ee_list (hm : B.mg "list" = none) (ha : EA B (e :: es) wa) (hg : ∀ j, Gl (B.X j) "list" := by intro _; rfl) (he : ∀ j, starEach (e :: es) (B.X j).env = (false, eval e (B.X j).env) :: starEach es (B.X j).env := by intro _; rfl) (hpl : ∀ j, (backTo pos (starEach es (B.X j).env)).any (·.1) = false := by intro _; rfl) :
    EE B (.Call (.Name "list" p) (e :: es) [] pos) (eCB cList wa) := ee_ct (i := "list") (r := rLstQ B.K) (fun j => by have q := B.hK j; rw [← q]; exact call_list_of) snd_list ha hm (by decide +kernel) hg (by decide) (by decide) he hpl
theorem ee_toint (hm : B.mg "int" = none) (ha : EA B (e :: es) wa) (hg : ∀ j, Gl (B.X j) "int" := by intro _; rfl) (he : ∀ j, starEach (e :: es) (B.X j).env = (false, eval e (B.X j).env) :: starEach es (B.X j).env := by intro _; rfl) (hpl : ∀ j, (backTo pos (starEach es (B.X j).env)).any (·.1) = false := by intro _; rfl) :
    EE B (.Call (.Name "int" p) (e :: es) [] pos) (eCB cInt wa) := ee_ct (i := "int") (fun _ => call_int1) snd_int ha hm (by decide +kernel) hg (by decide) (by decide) he hpl
theorem ee_sum (hm : B.mg "sum" = none) (ha : EA B (e :: es) wa) (hg : ∀ j, Gl (B.X j) "sum" := by intro _; rfl) (he : ∀ j, starEach (e :: es) (B.X j).env = (false, eval e (B.X j).env) :: starEach es (B.X j).env := by intro _; rfl) (hpl : ∀ j, (backTo pos (starEach es (B.X j).env)).any (·.1) = false := by intro _; rfl) :
    EE B (.Call (.Name "sum" p) (e :: es) [] pos) (eCB cSum wa) := ee_cb (i := "sum") (r := rSum B.K) (fun j => by have q := B.hK j; rw [← q]; exact cr_sum (B.calm j)) snd_sum ha hm (by decide +kernel) hg (by decide) (by decide) he hpl
end
/-- isinstance(x, T), T a built-in class -/
def tyD : D → String
  | .none => "NoneType"
  | .bool _ => "bool"
  | .int _ => "int"
  | .str _ => "str"
  | .list _ => "list"
  | .tuple _ => "tuple"
  | .dict _ => "dict"
inductive Ty where
  | int | bool | tuple | list | str
def Ty.name : Ty → String
  | .int => "int"
  | .bool => "bool"
  | .tuple => "tuple"
  | .list => "list"
  | .str => "str"
def isiD : Ty → D → Bool
  | .int, .int _ => true
  | .int, .bool _ => true
  | .bool, .bool _ => true
  | .tuple, .tuple _ => true
  | .list, .list _ => true
  | .str, .str _ => true
  | _, _ => false
theorem kit_all (T : Ty) (d : D) : kitB (tyD d) T.name = some (isiD T d) := by
  cases T <;> cases d <;> first
    | (show kitB "NoneType" "int" = some false; decide +kernel)
    | (show kitB "NoneType" "bool" = some false; decide +kernel)
    | (show kitB "NoneType" "tuple" = some false; decide +kernel)
    | (show kitB "NoneType" "list" = some false; decide +kernel)
    | (show kitB "NoneType" "str" = some false; decide +kernel)
    | (show kitB "bool" "int" = some true; decide +kernel)
    | (show kitB "bool" "bool" = some true; decide +kernel)
    | (show kitB "bool" "tuple" = some false; decide +kernel)
    | (show kitB "bool" "list" = some false; decide +kernel)
    | (show kitB "bool" "str" = some false; decide +kernel)
    | (show kitB "int" "int" = some true; decide +kernel)
    | (show kitB "int" "bool" = some false; decide +kernel)
    | (show kitB "int" "tuple" = some false; decide +kernel)
    | (show kitB "int" "list" = some false; decide +kernel)
    | (show kitB "int" "str" = some false; decide +kernel)
    | (show kitB "str" "int" = some false; decide +kernel)
    | (show kitB "str" "bool" = some false; decide +kernel)
    | (show kitB "str" "tuple" = some false; decide +kernel)
    | (show kitB "str" "list" = some false; decide +kernel)
    | (show kitB "str" "str" = some true; decide +kernel)
    | (show kitB "list" "int" = some false; decide +kernel)
    | (show kitB "list" "bool" = some false; decide +kernel)
    | (show kitB "list" "tuple" = some false; decide +kernel)
    | (show kitB "list" "list" = some true; decide +kernel)
    | (show kitB "list" "str" = some false; decide +kernel)
    | (show kitB "tuple" "int" = some false; decide +kernel)
    | (show kitB "tuple" "bool" = some false; decide +kernel)
    | (show kitB "tuple" "tuple" = some true; decide +kernel)
    | (show kitB "tuple" "list" = some false; decide +kernel)
    | (show kitB "tuple" "str" = some false; decide +kernel)
    | (show kitB "dict" "int" = some false; decide +kernel)
    | (show kitB "dict" "bool" = some false; decide +kernel)
    | (show kitB "dict" "tuple" = some false; decide +kernel)
    | (show kitB "dict" "list" = some false; decide +kernel)
    | (show kitB "dict" "str" = some false; decide +kernel)
def eIsi (T : Ty) (a : DE) : DE := fun Γ P => a Γ fun d => P (.bool (isiD T d))
theorem tyX_of {K : PySem.W.Frag} {H : Hp} : ∀ {d : D} {v : V}, Rp K H v d → TyX K H v (.type (tyD d))
  | _, _, .non => .base .non
  | _, _, .bl b => .base (.bl b)
  | _, _, .int i => .base (.int i)
  | _, _, .str x => .base (.str x)
  | _, _, .lst h _ => .base (.lst h)
  | _, _, .tup h _ => by
    rcases h with (h | ⟨o, h⟩) | ⟨o, its, n, h1, h2, _⟩
    · exact .base (.tup h)
    · exact .fTuple h
    · exact .kTuple h1 h2
theorem ee_isi (T : Ty) {e : Expr} {wa : DE} {p p2 pos : Pos} {x : Str} (hm : B.mg "isinstance" = none) (hmT : B.mg x = none) (ha : EE B e wa) (hvT : bootBuiltins x = some (.type T.name) := by decide +kernel) (hg : ∀ j, Gl (B.X j) "isinstance" := by intro _; rfl) (hgT : ∀ j, Gl (B.X j) x := by intro _; rfl)
    (hnT : x ≠ "__name__" := by decide) (hdT : (x == ("__debug__" : Str)) = false := by decide)
    (he : ∀ j, starEach (e :: [.Name x p2]) (B.X j).env = (false, eval e (B.X j).env) :: starEach [.Name x p2] (B.X j).env := by intro _; rfl) :
    EE B (.Call (.Name "isinstance" p) [e, .Name x p2] [] pos) (eIsi T wa) := by
  obtain ⟨ta, pa, sa⟩ := ha
  refine ⟨tCB (rIsi B.K) (tCons ta (tCons (tC (.ty T.name)) tNil)), fun j => pe_callB (by have q := B.hK j; rw [← q]; exact call_isi) (hg j) (by rw [B.hmg]; exact hm) (by decide +kernel) (pa_cons (pa j) (pa_cons (pe_bltn (v := .ty T.name) (hgT j) (by rw [B.hmg]; exact hmT) hvT rfl hnT hdT) pa_nil (by rfl)) (he j)) (by decide) (by decide) (he j) (by rfl), fun ad Γ σ H P Q C h k => ?_⟩
  refine sa ad Γ σ H _ _ C h fun v H1 d e1 r1 q1 => ?_
  exact ⟨v, .ty T.name, _, _, _, rfl, .ty T.name, tyX_of (r1.mono msk_le), kit_ty (kit_all T d), k _ H1 _ e1 (.bl _) q1⟩
end
end DL

set_option Elab.async false
set_option linter.all false
set_option maxRecDepth 100000
set_option maxHeartbeats 2000000
namespace DL
open PySem PySem.Spec L2
set_option autoImplicit false
section
variable {B : Bd}

/-! ### what is walked -/
/-- the iterator walks the data ds, wherever the heap Hm still stands -/
def Wk (B : Bd) (J : It) (Hm : Hp) (ds : List D) : Prop := ∀ (ad : Ad) (Γ : Ct) (σ : L2.St) (H : Hp), Cq B.K B.F ad Γ σ H → Same Hm (msk Γ ad H) →
  (∀ (i : Nat) (d : D), ds[i]? = some d → J.go i H ∧ ∀ x H3, J.yld i H x H3 → Same H H3 ∧ Rp B.K (msk Γ ad H3) x d) ∧ J.stop ds.length H
def SndI (B : Bd) (t : TI) (w : DL_) : Prop := ∀ (ad : Ad) (Γ : Ct) (σ : L2.St) (H : Hp) (P : List D → Prop) (R : It → Hp → Prop), Cq B.K B.F ad Γ σ H → w Γ P →
  (∀ J H' ds, Same H H' → Wk B J (msk Γ ad H') ds → P ds → R J H') → t σ H R
def EI (B : Bd) (tg e : Expr) (w : DL_) : Prop := ∃ t, (∀ i, PI (B.X i) tg e t) ∧ SndI B t w
theorem wk_list {H : Hp} {a : Addr} {vs : List V} {ds : List D} (h : H a = some (.lst vs)) (r : RpAll B.K H vs ds) : Wk B (Itl B.K a) H ds := fun ad Γ σ H' C s => by
  have hS : SqL B.K H' a vs := SqL.of (msk_le _ _ (s _ _ h))
  refine ⟨fun i d hd => ?_, vs, hS, by rw [r.length]; exact Nat.le_refl _⟩
  obtain ⟨v, h1, h2⟩ := r.get hd
  refine ⟨⟨vs, v, hS, h1⟩, fun x H3 hy => ?_⟩
  obtain ⟨rfl, hx⟩ := hy
  have e := hx vs hS
  rw [h1] at e; cases e
  exact ⟨Same.refl _, h2.mono s⟩
theorem wk_tup {H : Hp} {a : Addr} {vs : List V} {ds : List D} (h : SqT B.K H a vs) (r : RpAll B.K H vs ds) : Wk B (Itt B.K a) H ds := fun ad Γ σ H' C s => by
  have hS : SqT B.K H' a vs := sqT_le (Same.sqT s h)
  refine ⟨fun i d hd => ?_, vs, hS, by rw [r.length]; exact Nat.le_refl _⟩
  obtain ⟨v, h1, h2⟩ := r.get hd
  refine ⟨⟨vs, v, hS, h1⟩, fun x H3 hy => ?_⟩
  obtain ⟨rfl, hx⟩ := hy
  have e := hx vs hS
  rw [h1] at e; cases e
  exact ⟨Same.refl _, h2.mono s⟩
def iLst (a : DE) : DL_ := fun Γ P => a Γ fun x => match x with
  | .list ds => P ds
  | _ => False
def iTupD (a : DE) : DL_ := fun Γ P => a Γ fun x => match x with
  | .tuple ds => P ds
  | _ => False
theorem ei_list {tg e : Expr} {w : DE} (h : EE B e w) : EI B tg e (iLst w) := by
  obtain ⟨t, p, s⟩ := h
  refine ⟨iList B.K t, fun j => by have q := B.hK j; rw [← q]; exact pi_list (p j), fun ad Γ σ H P R C h k => s ad Γ σ H _ _ C h fun v H1 d e1 r1 q1 => ?_⟩
  cases d with
  | list ds =>
    cases r1 with
    | lst hx ax => exact ⟨_, rfl, ⟨_, SqL.of (msk_le _ _ hx)⟩, k _ H1 ds e1 (wk_list hx ax) q1⟩
  | _ => exact q1.elim
theorem ei_tup {tg e : Expr} {w : DE} (h : EE B e w) : EI B tg e (iTupD w) := by
  obtain ⟨t, p, s⟩ := h
  refine ⟨iTup B.K t, fun j => by have q := B.hK j; rw [← q]; exact pi_tup (p j), fun ad Γ σ H P R C h k => s ad Γ σ H _ _ C h fun v H1 d e1 r1 q1 => ?_⟩
  cases d with
  | tuple ds =>
    cases r1 with
    | tup hx ax => exact ⟨_, rfl, ⟨_, sqT_le hx⟩, k _ H1 ds e1 (wk_tup hx ax) q1⟩
  | _ => exact q1.elim
/-- range -/
def rngD (lo : Int) (n : Nat) : List D := (List.range n).map fun i => .int (lo + (i : Nat))
def rngC (lo c : Int) (n : Nat) : List D := (List.range n).map fun i => .int (lo + (i : Nat) * c)
theorem rng_get {lo : Int} {n i : Nat} {d : D} (h : (rngD lo n)[i]? = some d) : i < n ∧ d = .int (lo + (i : Nat)) := by
  unfold rngD at h
  rw [List.getElem?_map] at h
  by_cases hi : i < n
  · rw [List.getElem?_range hi] at h
    exact ⟨hi, (Option.some.inj h).symm⟩
  · rw [List.getElem?_eq_none (by rw [List.length_range]; omega)] at h
    cases h
theorem rngC_get {lo c : Int} {n i : Nat} {d : D} (h : (rngC lo c n)[i]? = some d) : i < n ∧ d = .int (lo + (i : Nat) * c) := by
  unfold rngC at h
  rw [List.getElem?_map] at h
  by_cases hi : i < n
  · rw [List.getElem?_range hi] at h
    exact ⟨hi, (Option.some.inj h).symm⟩
  · rw [List.getElem?_eq_none (by rw [List.length_range]; omega)] at h
    cases h
theorem wk_rng {H : Hp} {lo : Int} {n : Nat} : Wk B (Itr lo n) H (rngD lo n) := fun ad Γ σ H' C s => by
  refine ⟨fun i d hd => ?_, ?_⟩
  · obtain ⟨hi, rfl⟩ := rng_get hd
    refine ⟨hi, fun x H3 hy => ?_⟩
    obtain ⟨rfl, rfl⟩ := hy
    exact ⟨Same.refl _, .int _⟩
  · show n ≤ _
    unfold rngD
    rw [List.length_map, List.length_range]
    exact Nat.le_refl _
theorem wk_rngC {H : Hp} {lo c : Int} {n : Nat} : Wk B (Itc lo c n) H (rngC lo c n) := fun ad Γ σ H' C s => by
  refine ⟨fun i d hd => ?_, ?_⟩
  · obtain ⟨hi, rfl⟩ := rngC_get hd
    refine ⟨hi, fun x H3 hy => ?_⟩
    obtain ⟨rfl, rfl⟩ := hy
    exact ⟨Same.refl _, .int _⟩
  · show n ≤ _
    unfold rngC
    rw [List.length_map, List.length_range]
    exact Nat.le_refl _
def inR (j : Int) : Prop := -(2 ^ 62) ≤ j ∧ j < 2 ^ 62
def iR1 (a : DL_) : DL_ := fun Γ P => a Γ fun ds => match ds with
  | [.int j] => inR j ∧ P (rngD 0 j.toNat)
  | _ => False
def iR2 (a : DL_) : DL_ := fun Γ P => a Γ fun ds => match ds with
  | [.int i, .int j] => (inR i ∧ inR j) ∧ P (rngD i (j - i).toNat)
  | _ => False
/-- range(a, b, -1) -/
def iR3 (a : DL_) : DL_ := fun Γ P => a Γ fun ds => match ds with
  | [.int i, .int j, .int (-1)] => (inR i ∧ inR j) ∧ P (rngC i (-1) (i - j).toNat)
  | _ => False
section
variable {a b c tg : Expr} {wa : DL_} {p pos : Pos}
theorem ei_r1 (hm : B.mg "range" = none) (ha : EA B [a] wa) (hg : ∀ j, Gl (B.X j) "range" := by intro _; rfl) (hs : ∀ j, starEach [a] (B.X j).env = [(false, eval a (B.X j).env)] := by intro _; rfl) : EI B tg (.Call (.Name "range" p) [a] [] pos) (iR1 wa) := by
  obtain ⟨t, pa, s⟩ := ha
  refine ⟨_, fun j => pi_range1 (hg j) (by rw [B.hmg]; exact hm) (pa j) (hs j), fun ad Γ σ H P R C h k => s ad Γ σ H _ _ C h fun vs H1 ds e1 r1 _ q1 => ?_⟩
  split at q1
  · cases r1 with
    | cons r1 r2 =>
      cases r1; cases r2
      exact ⟨_, rfl, q1.1.1, q1.1.2, k _ H1 _ e1 wk_rng q1.2⟩
  · exact q1.elim
theorem ei_r2 (hm : B.mg "range" = none) (ha : EA B [a, b] wa) (hg : ∀ j, Gl (B.X j) "range" := by intro _; rfl) (hs : ∀ j, starEach [a, b] (B.X j).env = [(false, eval a (B.X j).env), (false, eval b (B.X j).env)] := by intro _; rfl) (hs2 : ∀ j, starEach [b] (B.X j).env = [(false, eval b (B.X j).env)] := by intro _; rfl) : EI B tg (.Call (.Name "range" p) [a, b] [] pos) (iR2 wa) := by
  obtain ⟨t, pa, s⟩ := ha
  refine ⟨_, fun j => pi_range2 (hg j) (by rw [B.hmg]; exact hm) (pa j) (hs j) (hs2 j), fun ad Γ σ H P R C h k => s ad Γ σ H _ _ C h fun vs H1 ds e1 r1 _ q1 => ?_⟩
  split at q1
  · cases r1 with
    | cons r1 r2 =>
      cases r2 with
      | cons r2 r3 =>
        cases r1; cases r2; cases r3
        exact ⟨_, _, rfl, ⟨q1.1.1.1, q1.1.1.2, q1.1.2.1, q1.1.2.2⟩, k _ H1 _ e1 wk_rng q1.2⟩
  · exact q1.elim
theorem ei_r3 (hm : B.mg "range" = none) (ha : EA B [a, b, c] wa) (hg : ∀ j, Gl (B.X j) "range" := by intro _; rfl) (hs : ∀ j, starEach [a, b, c] (B.X j).env = (false, eval a (B.X j).env) :: starEach [b, c] (B.X j).env := by intro _; rfl) (hpl : ∀ j, (backTo pos (starEach [b, c] (B.X j).env)).any (·.1) = false := by intro _; rfl) : EI B tg (.Call (.Name "range" p) [a, b, c] [] pos) (iR3 wa) := by
  obtain ⟨t, pa, s⟩ := ha
  refine ⟨_, fun j => pi_range3 (hg j) (by rw [B.hmg]; exact hm) (pa j) (hs j) (hpl j), fun ad Γ σ H P R C h k => s ad Γ σ H _ _ C h fun vs H1 ds e1 r1 _ q1 => ?_⟩
  split at q1
  · cases r1 with
    | cons r1 r2 =>
      cases r2 with
      | cons r2 r3 =>
        cases r3 with
        | cons r3 r4 =>
          cases r1; cases r2; cases r3; cases r4
          exact ⟨_, _, _, _, rfl, RgC.neg q1.1.1.1 q1.1.1.2 q1.1.2.1 q1.1.2.2, k _ H1 _ e1 wk_rngC q1.2⟩
  · exact q1.elim
end
/-- zip of two lists, its pairs unpacked -/
def iZp (a : DL_) : DL_ := fun Γ P => a Γ fun ds => match ds with
  | [.list xs, .list ys] => xs.length = ys.length ∧ P (List.zipWith (fun x y => PyData.tuple [x, y]) xs ys)
  | _ => False
theorem zipW_get {xs ys : List D} {i : Nat} {d : D} (h : (List.zipWith (fun x y => PyData.tuple [x, y]) xs ys)[i]? = some d) : ∃ x y, xs[i]? = some x ∧ ys[i]? = some y ∧ d = .tuple [x, y] := by
  rw [List.getElem?_zipWith] at h
  cases hx : xs[i]? with
  | none => rw [hx] at h; cases h
  | some x =>
    cases hy : ys[i]? with
    | none => rw [hx, hy] at h; cases h
    | some y =>
      rw [hx, hy] at h
      exact ⟨x, y, rfl, rfl, (Option.some.inj h).symm⟩
theorem wk_zip {H : Hp} {a b : Addr} {vs ws : List V} {ds es : List D} (h : H a = some (.lst vs)) (h' : H b = some (.lst ws)) (r : RpAll B.K H vs ds) (r' : RpAll B.K H ws es) (hl : ds.length = es.length) :
    Wk B (Itz B.K a b) H (List.zipWith (fun x y => PyData.tuple [x, y]) ds es) := fun ad Γ σ H' C s => by
  have hS : SqL B.K H' a vs := SqL.of (msk_le _ _ (s _ _ h))
  have hS' : SqL B.K H' b ws := SqL.of (msk_le _ _ (s _ _ h'))
  refine ⟨fun i d hd => ?_, vs, ws, hS, hS', .inl ?_⟩
  · obtain ⟨x, y, hx, hy, rfl⟩ := zipW_get hd
    obtain ⟨v, h1, h2⟩ := r.get hx
    obtain ⟨u, g1, g2⟩ := r'.get hy
    refine ⟨⟨vs, ws, v, u, hS, hS', h1, g1⟩, fun z H3 hz => ?_⟩
    obtain ⟨T, x', y', rfl, nT, rfl, f1, f2⟩ := hz
    have e1 := f1 vs hS
    have e2 := f2 ws hS'
    rw [h1] at e1; cases e1
    rw [g1] at e2; cases e2
    exact ⟨upd_grow nT, C.rp_tup nT (.cons (h2.mono s) (.cons (g2.mono s) .nil))⟩
  · rw [r.length, List.length_zipWith, hl, Nat.min_self]
    exact Nat.le_refl _
theorem ei_zip {e e2 : Expr} {wa : DL_} {p pos tpos : Pos} {elts : List Expr} {kk : Nat} (hm : B.mg "zip" = none) (ha : EA B [e, e2] wa) (hg : ∀ j, Gl (B.X j) "zip" := by intro _; rfl)
    (hs : ∀ j, starEach [e, e2] (B.X j).env = (false, eval e (B.X j).env) :: starEach [e2] (B.X j).env := by intro _; rfl) (hpl : ∀ j, (backTo pos (starEach [e2] (B.X j).env)).any (·.1) = false := by intro _; rfl) : EI B (.Tuple elts kk tpos) (.Call (.Name "zip" p) [e, e2] [] pos) (iZp wa) := by
  obtain ⟨t, pa, s⟩ := ha
  refine ⟨iZip B.K t, fun j => by have q := B.hK j; rw [← q]; exact pi_zip (hg j) (by rw [B.hmg]; exact hm) (pa j) (hs j) (hpl j), fun ad Γ σ H P R C h k => s ad Γ σ H _ _ C h fun vs H1 ds e1 r1 _ q1 => ?_⟩
  split at q1
  · cases r1 with
    | cons r1 r2 =>
      cases r2 with
      | cons r2 r3 =>
        cases r3
        cases r1 with
        | lst hx ax =>
          cases r2 with
          | lst hy ay => exact ⟨_, _, _, _, rfl, SqL.of (msk_le _ _ hx), SqL.of (msk_le _ _ hy), k _ H1 _ e1 (wk_zip hx hy ax ay q1.1) q1.2⟩
  · exact q1.elim

/-! ### targets -/
abbrev DG := D → Ct → (Ct → Prop) → Prop
abbrev DGs := List D → Ct → (Ct → Prop) → Prop
/-- what a target's store changes -/
structure Gd (is : List Nat) (ad : Ad) (Γ : Ct) (σ : L2.St) (Γ' : Ct) (σ' : L2.St) : Prop where
  wp : ∀ vs : List Nat, (∀ i ∈ is, i ∈ vs) → wipe σ' vs = wipe σ vs
  o1 : (∀ i ∈ is, ∀ ds, Γ[i]? ≠ some (.own ds)) → ∀ b, Owned Γ ad b → Owned Γ' ad b
  o2 : ∀ (j : Nat) (ds : List D), Γ'[j]? = some (.own ds) → Γ[j]? = some (.own ds)
def SndG (B : Bd) (is : List Nat) (g : TG) (w : DG) : Prop := ∀ (ad : Ad) (Γ : Ct) (σ : L2.St) (H : Hp) (v : V) (d : D) (P : Ct → Prop) (Q : L2.St → Hp → Prop), Cq B.K B.F ad Γ σ H → Rp B.K (msk Γ ad H) v d → w d Γ P →
  (∀ Γ' σ', Cq B.K B.F ad Γ' σ' H → Same (msk Γ ad H) (msk Γ' ad H) → Gd is ad Γ σ Γ' σ' → P Γ' → Q σ' H) → g v σ H Q
def SndGs (B : Bd) (is : List Nat) (g : TGs) (w : DGs) : Prop := ∀ (ad : Ad) (Γ : Ct) (σ : L2.St) (H : Hp) (vs : List V) (ds : List D) (P : Ct → Prop) (Q : L2.St → Hp → Prop), Cq B.K B.F ad Γ σ H → RpAll B.K (msk Γ ad H) vs ds → w ds Γ P →
  (∀ Γ' σ', Cq B.K B.F ad Γ' σ' H → Same (msk Γ ad H) (msk Γ' ad H) → Gd is ad Γ σ Γ' σ' → P Γ' → Q σ' H) → g vs σ H Q
def GG (B : Bd) (is : List Nat) (tg : Expr) (w : DG) : Prop := ∃ g, (∀ i, PG (B.X i) tg g) ∧ SndG B is g w
def GGs (B : Bd) (is : List Nat) (tg : List Expr) (w : DGs) : Prop := ∃ g, (∀ i, PGs (B.X i) tg g) ∧ SndGs B is g w
def dName (i : Nat) : DG := fun d Γ P => P (Γ.set i (.im d))
theorem set_comm_self {α : Type} (l : List α) (i : Nat) (a b : α) : (l.set i a).set i b = l.set i b := by simp
theorem wipe_set {σ : L2.St} {i : Nat} {v : Option V} : ∀ {vs : List Nat}, i ∈ vs → wipe (σ.set i v) vs = wipe σ vs
  | [], h => absurd h (by simp)
  | j :: vs, h => by
    show (wipe (σ.set i v) vs).set j none = (wipe σ vs).set j none
    by_cases hi : i ∈ vs
    · rw [wipe_set hi]
    · have e : i = j := (List.mem_cons.mp h).elim id fun z => absurd z hi
      subst e
      have com : ∀ ws : List Nat, i ∉ ws → wipe (σ.set i v) ws = (wipe σ ws).set i v := fun ws => by
        induction ws with
        | nil => intro _; rfl
        | cons w ws ih =>
          intro hw
          have h1 : i ≠ w := fun z => hw (by rw [z]; exact List.mem_cons_self)
          show (wipe (σ.set i v) ws).set w none = ((wipe σ ws).set w none).set i v
          rw [ih fun z => hw (List.mem_cons_of_mem _ z), List.set_comm _ _ h1]
      rw [com vs hi, set_comm_self]
theorem gg_name (i : Nat) {x : Str} {pos : Pos} (hi : B.N[i]? = some x := by rfl) (hx : ∀ j, Loc (B.X j).env.scope x := by intro _; first | exact Or.inl rfl | exact Or.inr rfl)
    (hf : ∀ j, (B.X j).fn x = true ∨ (B.X j).env.scope.names.lookup x = some .local := by intro _; first | exact .inl rfl | exact .inr rfl) : GG B [i] (.Name x pos) (dName i) :=
  ⟨gName i, fun j => pg_name (by rw [B.hN]; exact B.nd) (by rw [B.hN]; exact hi) (hx j) (hf j), fun ad Γ σ H v d P Q C r h k =>
    k _ _ (C.set_im r) (msk_set fun _ z => nomatch z) ⟨fun vs hv => wipe_set (hv i List.mem_cons_self), fun hno b hb => by
      rcases hb with hb | ⟨j, ds, h1, h2⟩
      · exact .inl hb
      · have hj : j ≠ i := fun z => hno i List.mem_cons_self ds (by rw [← z]; exact h1)
        exact .inr ⟨j, ds, by rw [List.getElem?_set_ne (Ne.symm hj)]; exact h1, h2⟩, fun j ds h1 => by
      rcases get_set_cases h1 with ⟨_, q, _⟩ | ⟨_, q⟩
      · cases q
      · exact q⟩ h⟩
def dNil : DGs := fun ds Γ P => match ds with
  | [] => P Γ
  | _ => False
def dCons (g : DG) (r : DGs) : DGs := fun ds Γ P => match ds with
  | d :: ds => g d Γ fun Γ' => r ds Γ' P
  | [] => False
theorem ggs_nil : GGs B [] [] dNil := ⟨gNil, fun _ => pgs_nil, fun ad Γ σ H vs ds P Q C r h k => by
  cases ds with
  | nil => cases r; exact ⟨rfl, k Γ σ C (Same.refl _) ⟨fun _ _ => rfl, fun _ _ hb => hb, fun _ _ h => h⟩ h⟩
  | cons _ _ => exact h.elim⟩
theorem ggs_cons {is js : List Nat} {e : Expr} {es : List Expr} {w : DG} {ws : DGs} (h1 : GG B is e w) (h2 : GGs B js es ws) (hp : ∀ j, (assignEach (e :: es) (B.X j).env).map (·.2) = assign e (B.X j).env :: (assignEach es (B.X j).env).map (·.2) := by intro _; rfl) : GGs B (is ++ js) (e :: es) (dCons w ws) := by
  obtain ⟨g, p, s⟩ := h1
  obtain ⟨gs, ps, ss⟩ := h2
  refine ⟨gCons g gs, fun j => pgs_cons (p j) (ps j) (hp j), fun ad Γ σ H vs ds P Q C r h k => ?_⟩
  cases ds with
  | nil => exact h.elim
  | cons d ds =>
    cases r with
    | cons r1 r2 =>
      refine ⟨_, _, rfl, s ad Γ σ H _ _ _ _ C r1 h fun Γ' σ' C' sm wp q => ?_⟩
      exact ss ad Γ' σ' H _ _ _ _ C' (r2.mono sm) q fun Γ2 σ2 C2 sm2 wp2 q2 => k Γ2 σ2 C2 (sm.trans sm2) ⟨fun vs hv => (wp2.wp vs fun i hi => hv i (List.mem_append_right _ hi)).trans (wp.wp vs fun i hi => hv i (List.mem_append_left _ hi)),
        fun hno b hb => wp2.o1 (fun i hi ds z => hno i (List.mem_append_right _ hi) ds (wp.o2 i ds z)) b (wp.o1 (fun i hi => hno i (List.mem_append_left _ hi)) b hb), fun j ds z => wp.o2 j ds (wp2.o2 j ds z)⟩ q2
def dTupT (g : DGs) : DG := fun d Γ P => match d with
  | .tuple ds => g ds Γ P
  | _ => False
theorem gg_tup {is : List Nat} {es : List Expr} {ws : DGs} {n k : Nat} {pos : Pos} (hl : ∀ ds Γ P, ws ds Γ P → ds.length = n) (h : GGs B is es ws) (hn : ∀ j, (assignEach es (B.X j).env).length = n := by intro _; rfl) (hst : ∀ j, (assignEach es (B.X j).env).findIdx? (·.1) = none := by intro _; rfl) : GG B is (.Tuple es k pos) (dTupT ws) := by
  obtain ⟨g, p, s⟩ := h
  refine ⟨gTup B.K n g, fun j => by have q := B.hK j; rw [← q]; exact pg_tup (B.calm j) (p j) (hn j) (hst j), fun ad Γ σ H v d P Q C r h k => ?_⟩
  cases d with
  | tuple ds =>
    cases r with
    | tup hx ax => exact ⟨_, _, rfl, sqT_le hx, by rw [ax.length]; exact hl _ _ _ h, s ad Γ σ H _ _ _ _ C ax h k⟩
  | _ => exact h.elim
end
end DL

set_option Elab.async false
set_option linter.all false
set_option maxRecDepth 100000
set_option maxHeartbeats 2000000
namespace DL
open PySem PySem.Spec L2
set_option autoImplicit false

theorem Cq.fx {K : PySem.W.Frag} {F F' : Fx} {ad : Ad} {Γ : Ct} {σ : L2.St} {H : Hp} (C : Cq K F ad Γ σ H) (e : F.H0 = F'.H0) (e2 : F.S = F'.S) : Cq K F' ad Γ σ H :=
  ⟨C.len, by rw [← e]; exact C.same, by rw [← e, ← e2]; exact C.new, C.im, C.own, C.scr, C.inj, C.hid, C.apart, by rw [← e2]; exact C.hidS⟩
/-- a comprehension's block -/
def Bd.blk (B : Bd) (scope : Scope) : Bd where
  ι := B.ι × Shared × Hp × Addr × List (Str × Addr) × List Addr
  X := fun j => (B.X j.1).blk j.2.1 j.2.2.1 scope (compEnvC scope j.2.2.2.2.1 j.2.2.2.1 (B.X j.1).env) j.2.2.2.2.2
  P := B.P
  w := B.w
  K := B.K
  mg := B.mg
  base := B.base
  N := B.N
  k := B.k
  F := { H0 := B.F.H0, Ex := fun _ => False, Wx := E0, cl := B.F.cl, S := B.F.S, good := fun _ _ _ h => h.elim }
  hP := fun j => B.hP j.1
  hw := fun j => B.hw j.1
  hK := fun j => B.hK j.1
  hmg := fun j => B.hmg j.1
  hbase := fun j => B.hbase j.1
  hN := fun j => B.hN j.1
  nd := B.nd
  hr := fun j => ⟨(B.hr j.1).hd, (B.hr j.1).dp, (B.hr j.1).un⟩
  calm := fun j => B.calm j.1
  pass := fun j => by
    have e1 := B.hP j.1
    have e2 := B.hw j.1
    rw [← e1, ← e2]
    exact passL (X := (B.X j.1).blk j.2.1 j.2.2.1 scope (compEnvC scope j.2.2.2.2.1 j.2.2.2.1 (B.X j.1).env) j.2.2.2.2.2)

section
variable {B : Bd}
/-! ### comprehensions -/
def wLc (Γ0 : Ct) (g : DG) (t : DT) (e : DE) (P : List D → Prop) : List D → List D → Prop
  | [], acc => P acc
  | d :: r, acc => g d Γ0 fun Γ' => t Γ' fun c => match c with
    | true => e Γ' fun y => acc.length < sizeLine ∧ wLc Γ0 g t e P r (acc ++ [y])
    | false => wLc Γ0 g t e P r acc
def wipeG (Γ : Ct) : List Nat → Ct
  | [] => Γ
  | v :: vs => (wipeG Γ vs).set v .no
def noOwn (Γ : Ct) (vs : List Nat) : Bool := vs.all fun v => match Γ[v]? with
  | some (.own _) => false
  | _ => true
def lLc (it : DL_) (own : List Nat) (g : DG) (t : DT) (e : DE) : DL_ := fun Γ P => it Γ fun ds => noOwn Γ own = true ∧ wLc (wipeG Γ own) g t e P ds []
theorem Cq.wipes {K : PySem.W.Frag} {F : Fx} {ad : Ad} {Γ : Ct} {σ : L2.St} {H : Hp} (C : Cq K F ad Γ σ H) : ∀ vs : List Nat, Cq K F ad (wipeG Γ vs) (wipe σ vs) H ∧ Same (msk Γ ad H) (msk (wipeG Γ vs) ad H)
  | [] => ⟨C, Same.refl _⟩
  | v :: vs => by
    obtain ⟨C', s⟩ := C.wipes vs
    exact ⟨C'.set_no, s.trans (msk_set fun _ z => nomatch z)⟩
theorem wipeG_own {Γ : Ct} {j : Nat} {ds : List D} : ∀ {vs : List Nat}, (wipeG Γ vs)[j]? = some (.own ds) → Γ[j]? = some (.own ds) ∧ j ∉ vs
  | [], h => ⟨h, by simp⟩
  | v :: vs, h => by
    rcases get_set_cases h with ⟨_, q, _⟩ | ⟨hj, q⟩
    · cases q
    · obtain ⟨h1, h2⟩ := wipeG_own q
      exact ⟨h1, fun z => (List.mem_cons.mp z).elim hj h2⟩
theorem own_wipeG {Γ : Ct} {j : Nat} {ds : List D} : ∀ {vs : List Nat}, noOwn Γ vs = true → Γ[j]? = some (.own ds) → (wipeG Γ vs)[j]? = some (.own ds)
  | [], _, h => h
  | v :: vs, hno, h => by
    unfold noOwn at hno
    rw [List.all_cons, Bool.and_eq_true] at hno
    have hj : j ≠ v := fun z => by
      have q := hno.1
      rw [← z, h] at q
      cases q
    show ((wipeG Γ vs).set v .no)[j]? = _
    rw [List.getElem?_set_ne (Ne.symm hj)]
    exact own_wipeG hno.2 h
theorem wipe_wipe {σ : L2.St} : ∀ (ws vs : List Nat), (∀ i ∈ ws, i ∈ vs) → wipe (wipe σ ws) vs = wipe σ vs
  | [], _, _ => rfl
  | w :: ws, vs, h => by
    show wipe ((wipe σ ws).set w none) vs = _
    rw [wipe_set (h w List.mem_cons_self), wipe_wipe ws vs fun i hi => h i (List.mem_cons_of_mem _ hi)]
theorem drop_cons {α : Type} {l : List α} {i : Nat} {x : α} {r : List α} (h : l.drop i = x :: r) : l[i]? = some x ∧ l.drop (i + 1) = r ∧ i < l.length := by
  have hi : i < l.length := by
    rcases Nat.lt_or_ge i l.length with q | q
    · exact q
    · rw [List.drop_eq_nil_of_le q] at h; cases h
  rw [List.drop_eq_getElem_cons hi] at h
  injection h with h1 h2
  exact ⟨by rw [List.getElem?_eq_getElem hi, h1], h2, hi⟩
theorem snd_lc {scope : Scope} {ti : TI} {wi : DL_} {own is : List Nat} {g : TG} {wg : DG} {tt : TT} {wt : DT} {te : TE} {we : DE} (hi : SndI B ti wi) (hg : SndG (B.blk scope) is g wg) (his : ∀ i ∈ is, i ∈ own)
    (ht : SndT (B.blk scope) tt wt) (he : SndE (B.blk scope) te we) : SndL B (tLc ti g tt te own) (lLc wi own wg wt we) := fun ad Γ σ H P Q C h k => by
  refine hi ad Γ σ H _ _ C h fun J H1 ds e1 wk q => ?_
  obtain ⟨hno, q⟩ := q
  intro Dn hD
  have C1 := C.grow e1
  obtain ⟨C2, s2⟩ := C1.wipes own
  obtain ⟨C3, s3⟩ := C2.more (vs := []) hD
  have noD : H Dn = none := e1.free hD
  refine ⟨fun i m H' => (m = ds.length - i ∧ i ≤ ds.length) ∧ ∃ acc vs, Cq B.K B.F (ad.more Dn) (wipeG Γ own) (wipe σ own) H' ∧ H' Dn = some (.lst vs) ∧ RpAll B.K (msk (wipeG Γ own) (ad.more Dn) H') vs acc ∧
      Same (msk Γ ad H1) (msk (wipeG Γ own) (ad.more Dn) H') ∧ wLc (wipeG Γ own) wg wt we P (ds.drop i) acc ∧ Same H1 H',
    ⟨ds.length, ⟨by omega, Nat.zero_le _⟩, [], [], C3, upd_same, .nil, s2.trans s3, q, upd_grow hD⟩, ?_⟩
  rintro i m H' ⟨⟨rfl, hi'⟩, acc, vs, C', hv, r, sm, q', s'⟩
  obtain ⟨wk1, wk2⟩ := wk _ _ _ _ C' sm
  cases hdr : ds.drop i with
  | nil =>
    rw [hdr] at q'
    have hle : ds.length ≤ i := List.drop_eq_nil_iff.mp hdr
    have hil : i = ds.length := by omega
    refine .inl ⟨by rw [hil]; exact wk2, k Dn H' vs acc (e1.trans s') noD hv ?_ q'⟩
    refine r.mono fun b o hb => ?_
    obtain ⟨h1, h2⟩ := but_of (more_le _ _ hb)
    obtain ⟨h3, h4⟩ := msk_of h2
    refine but_mk (msk_mk h3 fun z => h4 ?_) h1
    rcases z with z | ⟨j, es, z1, z2⟩
    · exact .inl z
    · exact .inr ⟨j, es, own_wipeG hno z1, z2⟩
  | cons d rest =>
    obtain ⟨d1, d2, d3⟩ := drop_cons hdr
    rw [hdr] at q'
    obtain ⟨go, yl⟩ := wk1 i d d1
    refine .inr ⟨go, fun H5 => ∃ acc vs, Cq B.K B.F (ad.more Dn) (wipeG Γ own) (wipe σ own) H5 ∧ H5 Dn = some (.lst vs) ∧ RpAll B.K (msk (wipeG Γ own) (ad.more Dn) H5) vs acc ∧
      Same (msk Γ ad H1) (msk (wipeG Γ own) (ad.more Dn) H5) ∧ wLc (wipeG Γ own) wg wt we P rest acc ∧ Same H1 H5, fun H5 ⟨acc5, vs5, h5⟩ => ⟨ds.length - (i + 1), by omega, ⟨rfl, d3⟩, acc5, vs5, by rw [d2]; exact h5⟩, fun x H3 hy => ?_⟩
    obtain ⟨sy, ry⟩ := yl x H3 hy
    have C3' : Cq (B.blk scope).K (B.blk scope).F (ad.more Dn) (wipeG Γ own) (wipe σ own) H3 := (C'.grow sy).fx rfl rfl
    have q2 : wg d (wipeG Γ own) fun Γ' => wt Γ' fun c => match c with
      | true => we Γ' fun y => acc.length < sizeLine ∧ wLc (wipeG Γ own) wg wt we P rest (acc ++ [y])
      | false => wLc (wipeG Γ own) wg wt we P rest acc := q'
    refine hg _ _ _ H3 x d _ _ C3' ry q2 fun Γ' σ' C4 s4 gd q3 => ⟨(gd.wp own his).trans (wipe_wipe own own fun _ h => h), ?_⟩
    have back : ∀ H5, Same (msk Γ' (ad.more Dn) H5) (msk (wipeG Γ own) (ad.more Dn) H5) := fun H5 b o hb => by
      obtain ⟨h1, h2⟩ := msk_of hb
      exact msk_mk h1 fun z => h2 (gd.o1 (fun i hi ds z => (wipeG_own z).2 (his i hi)) b z)
    refine ht _ _ _ H3 _ _ C4 q3 fun c H4 s5 q4 => ?_
    cases c with
    | false =>
      rw [if_neg Bool.false_ne_true]
      have sA := sy.trans s5
      exact ⟨acc, vs, C'.grow sA, sA _ _ hv, r.mono (msk_same sA), sm.trans (msk_same sA), q4, s'.trans sA⟩
    | true =>
      rw [if_pos rfl]
      refine he _ _ _ H4 _ _ (C4.grow s5) q4 fun y H5 e s6 ry5 q5 => ?_
      have sA := (sy.trans s5).trans s6
      have r1 := r.mono (msk_same sA)
      have cl := (C'.grow sA).hidden (p := Dn) (vs := vs ++ [y]) (.inl rfl) (C1.same.free hD)
      refine ⟨vs, sA _ _ hv, by rw [r.length]; exact q5.1, acc ++ [e], vs ++ [y], cl.1, upd_same, ?_, (sm.trans (msk_same sA)).trans cl.2, q5.2, ?_⟩
      · exact (r1.append (.cons (ry5.mono (back H5)) .nil)).mono cl.2
      · exact fun b o hb => by
          rw [upd_ne (ne_of_none hb hD)]
          exact sA _ _ (s' _ _ hb)
def ETs (B : Bd) (ifs : List Expr) (w : DT) : Prop := ∃ t, (∀ i, PTs (B.X i) ifs t) ∧ SndT B t w
def tYesD : DT := fun _ P => P true
theorem ets_nil : ETs B [] tYesD := ⟨tYes, fun _ => pts_nil, fun ad Γ σ H P Q C h k => k true H (Same.refl H) h⟩
theorem ets_one {e : Expr} {w : DT} (h : ET B e w) : ETs B [e] w := let ⟨t, p, s⟩ := h; ⟨t, fun j => pts_one (p j), s⟩
section
variable {elt tg iter : Expr} {ifs : List Expr} {scope : Scope} {own : List (Str × Nat)} {is : List Nat} {pos : Pos} {wi : DL_} {wg : DG} {wt : DT} {we : DE}
theorem el_lc (own : List (Str × Nat)) (hi : EI B tg iter wi) (hg : GG (B.blk scope) is tg wg) (ht : ETs (B.blk scope) ifs wt) (he : EE (B.blk scope) elt we) (ok : ∀ j, BlkOk B.N (B.X j).env.scope scope own) (his : ∀ i ∈ is, i ∈ own.map (·.2) := by decide)
    (hs : ∀ j x, foldedSetIterable iter (B.X j).env x = pure x := by intro _ _; rfl) : EL B (.ListComp elt [⟨tg, iter, ifs, 0⟩] scope pos) (lLc wi (own.map (·.2)) wg wt we) := by
  obtain ⟨ti, pi, si⟩ := hi
  obtain ⟨g, pg, sg⟩ := hg
  obtain ⟨tt, pt, st⟩ := ht
  obtain ⟨te, pe, se⟩ := he
  refine ⟨_, fun j => pe_lc (own := own) (B.calm j) (by rw [B.hN]; exact B.nd) (pi j) (by rw [B.hN]; exact ok j) (fun s H C cl fp => pg (j, s, H, C, cl, fp)) (fun s H C cl fp => pt (j, s, H, C, cl, fp)) (fun s H C cl fp => pe (j, s, H, C, cl, fp)) (hs j), snd_lc si sg his st se⟩
end
/-- a new list as a value -/
def eL (w : DL_) : DE := fun Γ P => w Γ fun ds => P (.list ds)
theorem snd_l {t : TE} {w : DL_} (h : SndL B t w) : SndE B t (eL w) := fun ad Γ σ H P Q C q k => h ad Γ σ H _ _ C q fun p H' vs ds e hn hp r q2 =>
  k _ H' _ e (.lst (msk_mk hp (C.fresh hn)) (r.mono but_le)) q2
theorem ee_l {e : Expr} {w : DL_} (h : EL B e w) : EE B e (eL w) := let ⟨t, p, s⟩ := h; ⟨t, p, snd_l s⟩

/-! ### statements -/
def wNext : DS := fun D₁ Γ => D₁.nx Γ
def wSeq (a b : DS) : DS := fun D₁ Γ => a { D₁ with nx := b D₁ } Γ
theorem Lands.refl' {ad : Ad} {Γ : Ct} {H : Hp} {D₁ : DEnds} {T : Ends} (L : Lands B ad Γ H D₁ T) {ad' : Ad} {Γ' : Ct} {H' : Hp} (s : Same (msk Γ ad H) (msk Γ' ad' H')) : Lands B ad' Γ' H' D₁ T :=
  ⟨fun a g σ h C s' q => L.nx a g σ h C (s.trans s') q, L.rt, fun a g σ h C s' q => L.bk a g σ h C (s.trans s') q, fun a g σ h C s' q => L.ct a g σ h C (s.trans s') q⟩
theorem ss_nil : SS B [] wNext := ⟨tNext, fun _ => pss_nil, fun ad Γ σ H D₁ T C h L => L.nx ad Γ σ H C (Same.refl _) h⟩
theorem ss_cons {st : Stmt} {rest : List Stmt} {a b : DS} (h1 : S1 B st a) (h2 : SS B rest b) : SS B (st :: rest) (wSeq a b) := by
  obtain ⟨t, p, s⟩ := h1
  obtain ⟨u, q, r⟩ := h2
  refine ⟨_, fun j => pss_cons (p j) (q j), fun ad Γ σ H D₁ T C h L => s ad Γ σ H _ _ C h ⟨fun a g σ' h' C' s' q' => ?_, L.rt, L.bk, L.ct⟩⟩
  exact r a g σ' h' D₁ T C' q' (L.refl' s')
theorem ss_one {st : Stmt} {a : DS} (h1 : S1 B st a) : SS B [st] a := let ⟨t, p, s⟩ := h1; ⟨t, fun j => pss_one (p j), s⟩
/-- x = e -/
def wSet (i : Nat) (a : DE) : DS := fun D₁ Γ => a Γ fun d => D₁.nx (Γ.set i (.im d))
def wSetL (i : Nat) (a : DL_) : DS := fun D₁ Γ => a Γ fun ds => D₁.nx (Γ.set i (.own ds))
section
variable {x : Str} {e : Expr} {w : DE} {wl : DL_} {pos pos' : Pos}
theorem s1_set (i : Nat) (he : EE B e w) (hi : B.N[i]? = some x := by rfl) (hx : ∀ j, Loc (B.X j).env.scope x := by intro _; first | exact Or.inl rfl | exact Or.inr rfl) (hs : ∀ j, swapsWith e (some (.Name x pos')) pos.line (B.X j).env = pure false := by intro _; rfl)
    (hf : ∀ j, (B.X j).fn x = true ∨ (B.X j).env.scope.names.lookup x = some .local := by intro _; first | exact .inl rfl | exact .inr rfl) : S1 B (.Assign [.Name x pos'] e pos) (wSet i w) := by
  obtain ⟨t, p, s⟩ := he
  refine ⟨_, fun j => ps_set (i := i) (by rw [B.hN]; exact B.nd) (by rw [B.hN]; exact hi) (hx j) (p j) (hs j) (hf j), fun ad Γ σ H D₁ T C h L => s ad Γ σ H _ _ C h fun v H1 d e1 r q => ?_⟩
  exact L.nx ad _ _ H1 ((C.grow e1).set_im r) ((msk_same e1).trans (msk_set fun _ z => nomatch z)) q
theorem s1_setL (i : Nat) (he : EL B e wl) (hi : B.N[i]? = some x := by rfl) (hx : ∀ j, Loc (B.X j).env.scope x := by intro _; first | exact Or.inl rfl | exact Or.inr rfl) (hs : ∀ j, swapsWith e (some (.Name x pos')) pos.line (B.X j).env = pure false := by intro _; rfl)
    (hf : ∀ j, (B.X j).fn x = true ∨ (B.X j).env.scope.names.lookup x = some .local := by intro _; first | exact .inl rfl | exact .inr rfl) : S1 B (.Assign [.Name x pos'] e pos) (wSetL i wl) := by
  obtain ⟨t, p, s⟩ := he
  refine ⟨_, fun j => ps_set (i := i) (by rw [B.hN]; exact B.nd) (by rw [B.hN]; exact hi) (hx j) (p j) (hs j) (hf j), fun ad Γ σ H D₁ T C h L => s ad Γ σ H _ _ C h fun p' H1 vs ds e1 hn hp r q => ?_⟩
  obtain ⟨C', s'⟩ := C.set_own (i := i) e1 hn hp r
  exact L.nx _ _ _ H1 C' s' q
end
/-- x = [.. for ..] -/
theorem s1_setLc (i : Nat) {x : Str} {elt tg iter : Expr} {ifs : List Expr} {scope : Scope} {is : List Nat} {pos pos' py : Pos} {wi : DL_} {wg : DG} {wt : DT} {we : DE} (own : List (Str × Nat)) (hi : EI B tg iter wi) (hg : GG (B.blk scope) is tg wg) (ht : ETs (B.blk scope) ifs wt) (he : EE (B.blk scope) elt we) (ok : ∀ j, BlkOk B.N (B.X j).env.scope scope own)
    (hy : B.N[i]? = some x := by rfl) (hyl : ∀ j, (B.X j).env.scope.names.lookup x = some .local := by intro _; rfl) (hsw : ∀ j, swapsWith (.ListComp elt [⟨tg, iter, ifs, 0⟩] scope pos) (some (.Name x py)) pos'.line (B.X j).env = pure true := by intro _; exact sw_true rfl rfl rfl (by decide +kernel))
    (his : ∀ i ∈ is, i ∈ own.map (·.2) := by decide) (hs : ∀ j x, foldedSetIterable iter (B.X j).env x = pure x := by intro _ _; rfl) : S1 B (.Assign [.Name x py] (.ListComp elt [⟨tg, iter, ifs, 0⟩] scope pos) pos') (wSet i (eL (lLc wi (own.map (·.2)) wg wt we))) := by
  obtain ⟨ti, pi, si⟩ := hi
  obtain ⟨g, pg, sg⟩ := hg
  obtain ⟨tt, pt, st⟩ := ht
  obtain ⟨te, pe, se⟩ := he
  refine ⟨_, fun j => ps_setLc (i := i) (own := own) (B.calm j) (by rw [B.hN]; exact B.nd) (by rw [B.hN]; exact hy) (hyl j) (hsw j) (pi j) (by rw [B.hN]; exact ok j) (fun s H C cl fp => pg (j, s, H, C, cl, fp)) (fun s H C cl fp => pt (j, s, H, C, cl, fp)) (fun s H C cl fp => pe (j, s, H, C, cl, fp)) (hs j), fun ad Γ σ H D₁ T C h L => ?_⟩
  refine snd_l (snd_lc si sg his st se) ad Γ σ H _ _ C h fun v H1 d e1 r q => ?_
  exact L.nx ad _ _ H1 ((C.grow e1).set_im r) ((msk_same e1).trans (msk_set fun _ z => nomatch z)) q
/-- any target -/
def wAsg (g : DG) (a : DE) : DS := fun D₁ Γ => a Γ fun d => g d Γ D₁.nx
theorem s1_asg {is : List Nat} {tg e : Expr} {w : DE} {wg : DG} {pos : Pos} (he : EE B e w) (hg : GG B is tg wg) (hs : ∀ j, swapsWithSole [tg] e pos.line (B.X j).env = pure false := by intro _; rfl) (hw : ∀ j, swappedStores [tg] e (B.X j).env = pure none := by intro _; rfl) (h1 : ∀ j, (assignEach [tg] (B.X j).env).map (·.2) = [assign tg (B.X j).env] := by intro _; rfl) : S1 B (.Assign [tg] e pos) (wAsg wg w) := by
  obtain ⟨t, p, s⟩ := he
  obtain ⟨g, pg, sg⟩ := hg
  refine ⟨_, fun j => ps_asg (p j) (pg j) (hs j) (hw j) (h1 j), fun ad Γ σ H D₁ T C h L => s ad Γ σ H _ _ C h fun v H1 d e1 r q => ?_⟩
  exact sg ad Γ σ H1 v d _ _ (C.grow e1) r q fun Γ' σ' C' s' _ q' => L.nx ad Γ' σ' H1 C' ((msk_same e1).trans s') q'
/-- a, b = e1, e2 -/
def parD (i j : Nat) (Γ : Ct) (P : Ct → Prop) : List D → Prop
  | [x, y] => P ((Γ.set i (.im x)).set j (.im y))
  | _ => False
def wPar (i j : Nat) (a : DL_) : DS := fun D₁ Γ => a Γ fun ds => parD i j Γ D₁.nx ds
theorem s1_ret {e : Expr} {w : DE} {pos : Pos} (he : EE B e w) : S1 B (.Return (some e) pos) (fun D₁ Γ => w Γ D₁.rt) := by
  obtain ⟨t, p, s⟩ := he
  refine ⟨_, fun j => ps_ret (p j), fun ad Γ σ H D₁ T C h L => s ad Γ σ H _ _ C h fun v H1 d e1 r q => ?_⟩
  exact L.rt v H1 d (C.same.trans e1) (r.mono C.msk_S) q
end
end DL

set_option Elab.async false
set_option linter.all false
set_option maxRecDepth 100000
set_option maxHeartbeats 2000000
namespace DL
open PySem PySem.Spec L2
set_option autoImplicit false
/-- the body of a def: what loops and raises want -/
structure Bd.Body (B : Bd) : Prop where
  tk : ∀ j, Takes (B.X j) (fun cls d _ H => B.F.Wx cls d H)
  po : ∀ j, PassesOwn (model (B.X j).prog (B.X j).w) (B.X j).A (B.X j).env (B.X j).xe
  stk : ∀ j, (B.X j).stack = (B.X j).env :: (B.X j).outer
  frm : ∀ j, (B.X j).env.frame = some (B.X j).env.locals
section
variable {B : Bd}
theorem s1_par (i j : Nat) {x y : Str} {a b : Expr} {w : DL_} {px py pt pos : Pos} {kt k2 pt2} (ha : EA B [a, b] w) (hi : B.N[i]? = some x := by rfl) (hj : B.N[j]? = some y := by rfl) (hij : i ≠ j := by decide)
    (hx : ∀ l, (B.X l).env.scope.names.lookup x = some .local := by intro _; rfl) (hy : ∀ l, (B.X l).env.scope.names.lookup y = some .local := by intro _; rfl)
    (hw : ∀ l, swappedStores [.Tuple [.Name x px, .Name y py] kt pt] (.Tuple [a, b] k2 pt2) (B.X l).env = pure (some [x, y]) := by intro _; rfl)
    (hs : ∀ l, swapsWithSole [.Tuple [.Name x px, .Name y py] kt pt] (.Tuple [a, b] k2 pt2) pos.line (B.X l).env = pure false := by intro _; rfl) : S1 B (.Assign [.Tuple [.Name x px, .Name y py] kt pt] (.Tuple [a, b] k2 pt2) pos) (wPar i j w) := by
  obtain ⟨t, p, s⟩ := ha
  refine ⟨_, fun l => ps_par (B.calm l) (by rw [B.hN]; exact B.nd) (by rw [B.hN]; exact hi) (by rw [B.hN]; exact hj) hij (hx l) (hy l) (p l) (hw l) (hs l), fun ad Γ σ H D₁ T C h L => s ad Γ σ H _ _ C h fun vs H1 ds e1 r _ q => ?_⟩
  unfold parD at q
  split at q
  · cases r with
    | cons r1 r2 =>
      cases r2 with
      | cons r2 r3 =>
        cases r3
        have C1 := (C.grow e1).set_im (i := i) r1
        have s1 := fun (Δ : Ct) (i : Nat) (d : D) => (msk_set (ad := ad) (Γ := Δ) (H := H1) (i := i) (e := En.im d) fun _ z => nomatch z)
        exact ⟨_, _, rfl, L.nx ad _ _ H1 (C1.set_im (r2.mono (s1 _ _ _))) (((msk_same e1).trans (s1 _ _ _)).trans (s1 _ _ _)) q⟩
  · exact q.elim
/-- e, its value dropped -/
def wExpr (a : DE) : DS := fun D₁ Γ => a Γ fun _ => D₁.nx Γ
theorem s1_expr {e : Expr} {w : DE} {pos : Pos} (he : EE B e w) (hs : ∀ j, swapsWith e none pos.line (B.X j).env = pure false := by intro _; rfl) : S1 B (.Expr e pos) (wExpr w) := by
  obtain ⟨t, p, s⟩ := he
  exact ⟨_, fun j => ps_expr (p j) (hs j), fun ad Γ σ H D₁ T C h L => s ad Γ σ H _ _ C h fun v H1 d e1 r q => L.nx ad Γ σ H1 (C.grow e1) (msk_same e1) q⟩
/-- xs.append(e) -/
def wApp (i : Nat) (a : DE) : DS := fun D₁ Γ => match Γ[i]? with
  | some (.own ds) => a Γ fun d => ds.length < sizeLine ∧ D₁.nx (Γ.set i (.own (ds ++ [d])))
  | _ => False
theorem s1_app (i : Nat) {x : Str} {e : Expr} {w : DE} {p p2 p3 pos : Pos} (he : EE B e w) (hN : B.N[i]? = some x := by rfl) (hv : ∀ j, Vis (B.X j).env.scope x := by intro _; first | exact Or.inl rfl | exact Or.inr (Or.inl rfl) | exact Or.inr (Or.inr rfl))
    (hd : (x == ("__debug__" : Str)) = false := by decide) (hcd : (x == ("__classdict__" : Str)) = false := by decide)
    (hs : ∀ j, swapsWith (.Call (.Attribute (.Name x p) "append" p2) [e] [] p3) none pos.line (B.X j).env = pure false := by intro _; rfl)
    (hb : ∀ j (tx : TE) (tee : TE), PE (B.X j) (.Name x p) tx → PE (B.X j) e tee → PE (B.X j) (.Call (.Attribute (.Name x p) "append" p2) [e] [] p3) (tBM (B.X j).K "list" rAppend tx (tCons tee tNil)) := by intro j tx tee h1 h2; exact pe_bm PySem.F.plainAttrs_list PySem.F.slot_list_append PySem.F.type_list_append mt_append h1 (pa_cons h2 pa_nil)) :
    S1 B (.Expr (.Call (.Attribute (.Name x p) "append" p2) [e] [] p3) pos) (wApp i w) := by
  obtain ⟨t, pt, s⟩ := he
  refine ⟨tDrop (tBM B.K "list" rAppend (tVar i) (tCons t tNil)), fun j => ps_expr ?_ (hs j), fun ad Γ σ H D₁ T C h L => ?_⟩
  · have q := B.hK j
    rw [← q]
    exact hb j _ _ (pe_var (i := i) (by rw [B.hN]; exact hN) (hv j) hd hcd) (pt j)
  · unfold wApp at h
    split at h
    · rename_i ds hi
      obtain ⟨h1, vs, h2, h3⟩ := C.own i ds hi
      refine ⟨_, h1, .inl ⟨rfl, _, SqL.of h2⟩, s ad Γ σ H _ _ C h fun v H1 d e1 r q => ?_⟩
      refine ⟨_, vs, v, rfl, rfl, e1 _ _ h2, by rw [h3.length]; exact q.1, ?_⟩
      obtain ⟨C', s'⟩ := (C.grow e1).write (es := ds ++ [d]) (vs := vs ++ [v]) hi ((h3.mono (msk_same e1)).append (.cons r .nil))
      exact L.nx ad _ _ _ C' ((msk_same e1).trans s') q.2
    · exact h.elim
/-- xs[i] = e -/
def wSetIx (i : Nat) (b a : DE) : DS := fun D₁ Γ => a Γ fun d => match Γ[i]? with
  | some (.own ds) => b Γ fun y => match y with
    | .int k => match ixN ds.length k with
      | some j => D₁.nx (Γ.set i (.own (ds.set j d)))
      | none => False
    | _ => False
  | _ => False
theorem s1_setix (i : Nat) {x : Str} {b e : Expr} {w wb : DE} {p p2 pos : Pos} (hb : EE B b wb) (he : EE B e w) (hN : B.N[i]? = some x := by rfl) (hv : ∀ j, Vis (B.X j).env.scope x := by intro _; first | exact Or.inl rfl | exact Or.inr (Or.inl rfl) | exact Or.inr (Or.inr rfl))
    (hd : (x == ("__debug__" : Str)) = false := by decide) (hcd : (x == ("__classdict__" : Str)) = false := by decide)
    (hp : ∀ j (tx tbb tee : TE), PE (B.X j) (.Name x p) tx → PE (B.X j) b tbb → PE (B.X j) e tee → PS (B.X j) (.Assign [.Subscript (.Name x p) b p2] e pos) (tAsg tee (gSub tx tbb rSetL)) := by intro j tx tbb tee h1 h2 h3; exact ps_asg h3 (pg_sub h1 h2 set_list)) :
    S1 B (.Assign [.Subscript (.Name x p) b p2] e pos) (wSetIx i wb w) := by
  obtain ⟨t, pt, s⟩ := he
  obtain ⟨tb, pb, sb⟩ := hb
  refine ⟨_, fun j => hp j (tVar i) tb t (pe_var (i := i) (by rw [B.hN]; exact hN) (hv j) hd hcd) (pb j) (pt j), fun ad Γ σ H D₁ T C h L => s ad Γ σ H _ _ C h fun v H1 d e1 r q => ?_⟩
  have q' : match Γ[i]? with
    | some (.own ds) => wb Γ fun y => match y with
      | .int k => match ixN ds.length k with
        | some j => D₁.nx (Γ.set i (.own (ds.set j d)))
        | none => False
      | _ => False
    | _ => False := q
  split at q'
  · rename_i ds hi
    obtain ⟨h1, vs, h2, h3⟩ := (C.grow e1).own i ds hi
    refine ⟨_, h1, sb ad Γ σ H1 _ _ (C.grow e1) q' fun y H2 e e2 r2 q2 => ?_⟩
    cases e with
    | int k =>
      cases r2
      have q3 : match ixN ds.length k with
        | some j => D₁.nx (Γ.set i (.own (ds.set j d)))
        | none => False := q2
      split at q3
      · rename_i j hj
        refine ⟨_, vs, k, j, rfl, rfl, e2 _ _ h2, by rw [h3.length]; exact hj, ?_⟩
        obtain ⟨C', s'⟩ := ((C.grow e1).grow e2).write (es := ds.set j d) (vs := vs.set j v) hi ((h3.mono (msk_same e2)).set j (r.mono (msk_same e2)))
        exact L.nx ad _ _ _ C' ((msk_same (e1.trans e2)).trans s') q3
      · exact q3.elim
    | _ => exact q2.elim
  · exact q'.elim
/-- if -/
def wIf (c : DT) (a b : DS) : DS := fun D₁ Γ => c Γ fun k => match k with
  | true => a D₁ Γ
  | false => b D₁ Γ
theorem s1_if {c : Expr} {a b : List Stmt} {wc : DT} {wa wb : DS} {pos : Pos} (hc : ET B c wc) (ha : SS B a wa) (hb : SS B b wb) : S1 B (.If c a b pos) (wIf wc wa wb) := by
  obtain ⟨t, p, s⟩ := hc
  obtain ⟨ta, pa, sa⟩ := ha
  obtain ⟨tb, pb, sb⟩ := hb
  refine ⟨_, fun j => ps_if (p j) (pa j) (pb j), fun ad Γ σ H D₁ T C h L => s ad Γ σ H _ _ C h fun k H1 e1 q => ?_⟩
  cases k with
  | true => rw [if_pos rfl]; exact sa ad Γ σ H1 D₁ T (C.grow e1) q (L.refl' (msk_same e1))
  | false => rw [if_neg Bool.false_ne_true]; exact sb ad Γ σ H1 D₁ T (C.grow e1) q (L.refl' (msk_same e1))
/-- while -/
def wWhN (t : DT) (b : DS) (D₁ : DEnds) : Nat → Ct → Prop
  | 0, _ => False
  | n + 1, Γ => t Γ fun c => match c with
    | true => b { D₁ with nx := wWhN t b D₁ n, ct := wWhN t b D₁ n, bk := D₁.nx } Γ
    | false => D₁.nx Γ
def wWhile (t : DT) (b : DS) : DS := fun D₁ Γ => ∃ n, wWhN t b D₁ n Γ
theorem s1_while {c : Expr} {body : List Stmt} {wc : DT} {wb : DS} {pos : Pos} (hB : B.Body) (hc : ET B c wc) (hb : SS B body wb) : S1 B (.While c body [] pos) (wWhile wc wb) := by
  obtain ⟨t, p, s⟩ := hc
  obtain ⟨tb, pb, sb⟩ := hb
  refine ⟨_, fun j => ps_while (hB.po j) (p j) (pb j), fun ad Γ σ H D₁ T C h L => ?_⟩
  obtain ⟨n0, h⟩ := h
  refine ⟨fun m σ' H' => ∃ ad' Γ', Cq B.K B.F ad' Γ' σ' H' ∧ Same (msk Γ ad H) (msk Γ' ad' H') ∧ wWhN wc wb D₁ m Γ', ⟨n0, ad, Γ, C, Same.refl _, h⟩, ?_⟩
  rintro m σ' H' ⟨ad', Γ', C', sm, q⟩
  cases m with
  | zero => exact q.elim
  | succ n =>
    have q' : wc Γ' fun c => match c with
      | true => wb { D₁ with nx := wWhN wc wb D₁ n, ct := wWhN wc wb D₁ n, bk := D₁.nx } Γ'
      | false => D₁.nx Γ' := q
    refine s ad' Γ' σ' H' _ _ C' q' fun k H1 e1 q1 => ?_
    have L' := (L.refl' sm).refl' (msk_same e1)
    cases k with
    | false => rw [if_neg Bool.false_ne_true]; exact L'.nx ad' Γ' σ' H1 (C'.grow e1) (Same.refl _) q1
    | true =>
      rw [if_pos rfl]
      refine ⟨fun σ2 H2 => ∃ ad2 Γ2, Cq B.K B.F ad2 Γ2 σ2 H2 ∧ Same (msk Γ ad H) (msk Γ2 ad2 H2) ∧ wWhN wc wb D₁ n Γ2, fun σ2 H2 z => ⟨n, Nat.lt_succ_self n, z⟩, ?_⟩
      have s1 := sm.trans (msk_same (Γ := Γ') (ad := ad') e1)
      exact sb ad' Γ' σ' H1 _ _ (C'.grow e1) q1 ⟨fun a g σ2 h2 C2 s2 q2 => ⟨a, g, C2, s1.trans s2, q2⟩, L'.rt, fun a g σ2 h2 C2 s2 q2 => L'.nx a g σ2 h2 C2 s2 q2, fun a g σ2 h2 C2 s2 q2 => ⟨a, g, C2, s1.trans s2, q2⟩⟩
/-- for -/
def wForL (g : DG) (b : DS) (D₁ : DEnds) : List D → Ct → Prop
  | [], Γ => D₁.nx Γ
  | d :: r, Γ => g d Γ fun Γ' => b { D₁ with nx := wForL g b D₁ r, ct := wForL g b D₁ r, bk := D₁.nx } Γ'
def wFor (it : DL_) (g : DG) (b : DS) : DS := fun D₁ Γ => it Γ fun ds => wForL g b D₁ ds Γ
theorem s1_for {iter tg : Expr} {body : List Stmt} {is : List Nat} {wi : DL_} {wg : DG} {wb : DS} {pos : Pos} (hB : B.Body) (hi : EI B tg iter wi) (hg : GG B is tg wg) (hb : SS B body wb) (hs : ∀ j x, foldedSetIterable iter (B.X j).env x = pure x := by intro _ _; rfl) :
    S1 B (.For tg iter body [] pos) (wFor wi wg wb) := by
  obtain ⟨ti, pi, si⟩ := hi
  obtain ⟨g, pg, sg⟩ := hg
  obtain ⟨tb, pb, sb⟩ := hb
  refine ⟨_, fun j => ps_for (hB.po j) (B.calm j) (pi j) (pg j) (pb j) (hs j), fun ad Γ σ H D₁ T C h L => si ad Γ σ H _ _ C h fun J H1 ds e1 wk q => ?_⟩
  have s01 := msk_same (Γ := Γ) (ad := ad) e1
  refine ⟨fun i m σ' H' => (m = ds.length - i ∧ i ≤ ds.length) ∧ ∃ ad' Γ', Cq B.K B.F ad' Γ' σ' H' ∧ Same (msk Γ ad H1) (msk Γ' ad' H') ∧ wForL wg wb D₁ (ds.drop i) Γ', ⟨ds.length, ⟨by omega, Nat.zero_le _⟩, ad, Γ, C.grow e1, Same.refl _, q⟩, ?_⟩
  rintro i m σ' H' ⟨⟨rfl, hi'⟩, ad', Γ', C', sm, q'⟩
  obtain ⟨wk1, wk2⟩ := wk _ _ _ _ C' sm
  have L' := L.refl' (s01.trans sm)
  cases hdr : ds.drop i with
  | nil =>
    rw [hdr] at q'
    have hle : ds.length ≤ i := List.drop_eq_nil_iff.mp hdr
    have hil : i = ds.length := by omega
    exact .inl ⟨by rw [hil]; exact wk2, L'.nx ad' Γ' σ' H' C' (Same.refl _) q'⟩
  | cons d rest =>
    obtain ⟨d1, d2, d3⟩ := drop_cons hdr
    rw [hdr] at q'
    obtain ⟨go, yl⟩ := wk1 i d d1
    refine .inr ⟨go, fun σ2 H2 => ∃ ad2 Γ2, Cq B.K B.F ad2 Γ2 σ2 H2 ∧ Same (msk Γ ad H1) (msk Γ2 ad2 H2) ∧ wForL wg wb D₁ rest Γ2, fun σ2 H2 ⟨a, g, z⟩ => ⟨ds.length - (i + 1), by omega, ⟨rfl, d3⟩, a, g, by rw [d2]; exact z⟩, fun x H3 hy => ?_⟩
    obtain ⟨sy, ry⟩ := yl x H3 hy
    refine sg ad' Γ' σ' H3 x d _ _ (C'.grow sy) ry q' fun Γ2 σ2 C2 s2 _ q2 => ?_
    have s3 := (msk_same (Γ := Γ') (ad := ad') sy).trans s2
    have L2' := L'.refl' s3
    exact sb ad' Γ2 σ2 H3 _ _ C2 q2 ⟨fun a g σ4 h4 C4 s4 q4 => ⟨a, g, C4, (sm.trans s3).trans s4, q4⟩, L2'.rt, fun a g σ4 h4 C4 s4 q4 => L2'.nx a g σ4 h4 C4 s4 q4, fun a g σ4 h4 C4 s4 q4 => ⟨a, g, C4, (sm.trans s3).trans s4, q4⟩⟩
def wBreak : DS := fun D₁ Γ => D₁.bk Γ
def wCont : DS := fun D₁ Γ => D₁.ct Γ
/-- a list of our own is filled no more -/
def wFrz (i : Nat) (a : DS) : DS := fun D₁ Γ => match Γ[i]? with
  | some (.own ds) => a D₁ (Γ.set i (.im (.list ds)))
  | _ => False
theorem ss_frz (i : Nat) {st : List Stmt} {w : DS} (h : SS B st w) : SS B st (wFrz i w) := by
  obtain ⟨t, p, s⟩ := h
  refine ⟨t, p, fun ad Γ σ H D₁ T C h L => ?_⟩
  unfold wFrz at h
  split at h
  · rename_i ds hi
    obtain ⟨C', s'⟩ := C.frz hi
    exact s ad _ σ H D₁ T C' h (L.refl' s')
  · exact h.elim
theorem s1_frz (i : Nat) {st : Stmt} {w : DS} (h : S1 B st w) : S1 B st (wFrz i w) := by
  obtain ⟨t, p, s⟩ := h
  refine ⟨t, p, fun ad Γ σ H D₁ T C h L => ?_⟩
  unfold wFrz at h
  split at h
  · rename_i ds hi
    obtain ⟨C', s'⟩ := C.frz hi
    exact s ad _ σ H D₁ T C' h (L.refl' s')
  · exact h.elim
/-- a class of exceptions of the text -/
structure Xc (K : PySem.W.Frag) (mg : Str → Option Value) (x : Str) (C : Addr) : Prop where
  g : mg x = some (.ref C)
  x : PySem.W.excIn K C [.type "ValueError", .type "Exception", .type "BaseException", .type "object"] "ValueError.__new__" = true
  k : PySem.W.keepIn K (.ref C) = true
  b : PySem.W.subIn K (.ref C) (.type "BaseException") = some true
  t : PySem.W.typeIn K (.ref C) = some (.type "type")
def wRaise (Ex : Nat → Prop) (g : Nat) : DS := fun _ _ => Ex g
theorem s1_raise (g : Nat) {x m : Str} {j : Nat} {p p2 p3 pos : Pos} (hB : B.Body) (hx : Xc B.K B.mg x (B.F.cl g)) (hg : ∀ j, Gl (B.X j) x := by intro _; rfl) (hdb : (x == ("__debug__" : Str)) = false := by decide) :
    S1 B (.Raise (some (.Call (.Name x p) [.Constant (.str m) j p2] [] p3)) none pos) (wRaise B.F.Ex g) := by
  refine ⟨fun _ σ H => B.F.Wx (.ref (B.F.cl g)) none H, fun l => ?_, fun ad Γ σ H D₁ T C h L => B.F.good g H C.same h⟩
  have e := B.hK l
  have e4 := B.hmg l
  obtain ⟨h1, h2, h3, h4, h5⟩ := hx
  rw [← e] at h2 h3 h4 h5
  rw [← e4] at h1
  exact ps_raise (B.calm l) (hB.tk l) (pmk_own PySem.F.excBase_ValueError h2 h1 h3 (raises_own h4 h5) (hg l) hdb)
end
/-! ### a def -/
section
variable {P : Program} {w : World} {K : PySem.W.Frag} {mg : Str → Option Value} {base : Heap}
/-- the one context of a def's body -/
def mkBd (P : Program) (w : World) (K : PySem.W.Frag) (mg : Str → Option Value) (base : Heap) (N : List Str) (nd : N.Nodup) (qual : Str) (sc : Scope) (k : Nat) (f : Addr) (cdv : Value) (A : Around) (outer : List Env) (s : Shared) (H : Hp) (E : XK) (F : Fx)
    (hr : Room k (A.deeper (PyProof.Rows.envOfC qual sc s.heap.objs.size f cdv))) (ps : Passes (L2.CX P w) (cxOf (L2.CX P w) P w K mg base N qual sc f cdv A outer s H E) F.Wx) : Bd where
  ι := Unit
  X := fun _ => cxOf (L2.CX P w) P w K mg base N qual sc f cdv A outer s H E
  P := P
  w := w
  K := K
  mg := mg
  base := base
  N := N
  k := k
  F := F
  hP := fun _ => rfl
  hw := fun _ => rfl
  hK := fun _ => rfl
  hmg := fun _ => rfl
  hbase := fun _ => rfl
  hN := fun _ => rfl
  nd := nd
  hr := fun _ => hr
  calm := fun _ => rfl
  pass := fun _ => ps
def startΓ (N : List Str) (ds : List D) : Ct := ds.map En.im ++ List.replicate (N.length - ds.length) En.no
/-- THE RULE for a def -/
theorem mk_fn {x qual : Str} {st : Stmt} {f : Addr} {fd : FuncData} {N ps : List Str} {k : Nat} {cl : Nat → Addr} {R : List D → Res → Prop} (F : Fun K x qual st f fd) (S : FnScope N ps (defScope st)) (len : ∀ ds r, R ds r → ds.length = ps.length)
    (hbody : ∀ (f : Addr) (cdv : Value) (A : Around) (outer : List Env) (s : Shared) (H : Hp) (E : XK) (F' : Fx) hr pss, F'.cl = cl →
      (mkBd P w K mg base N S.nd qual (defScope st) k f cdv A outer s H E F' hr pss).Body →
      ∃ w', SS (mkBd P w K mg base N S.nd qual (defScope st) k f cdv A outer s H E F' hr pss) (defBody st) w' ∧
        ∀ ds r, R ds r → (F'.Ex = fun g => r = .err g) → w' { nx := fun _ => r = .ok .none, rt := fun d => r = .ok d } (startΓ N ds)) :
    FnOk P w K mg base (L2.CX P w) (k + 1) f fd ps (spR K cl R) := by
  refine F.okX S (fun vs H Q E h => ?_) (fun cdv A outer s H vs Q E hr h => ?_)
  · obtain ⟨ds, r, _, h1, _, h3, _⟩ := h
    rw [h1.length, len ds r h3]
  · obtain ⟨ds, r, Sx, h1, h2, h3, h4⟩ := h
    have hl : vs.length = ds.length := h1.length
    have good : ∀ tag H', Same H H' → r = .err tag → E (.ref (cl tag)) none H' := fun tag H' s' e => by
      subst e
      exact h4 H' s'
    have tk : Takes (cxOf (L2.CX P w) P w K mg base N qual (defScope st) f cdv A outer s H E) (fun cls d _ H => E cls d H) := takes_of rfl rfl rfl rfl
    obtain ⟨w', ⟨t, ht, hs⟩, hw⟩ := hbody f cdv A outer s H E { H0 := H, Ex := fun g => r = .err g, Wx := E, cl := cl, S := Sx, good := good } hr
      (passes_call tk fun _ _ _ _ z => z) rfl ⟨fun _ => tk, fun _ => passes_of rfl, fun _ => rfl, fun _ => rfl⟩
    refine ⟨t, ht (), ?_⟩
    have q := hw ds r h3 rfl
    unfold startΓ at q
    have sm : Same (hide Sx H) (msk (ds.map En.im ++ List.replicate (N.length - ds.length) En.no) ⟨fun _ => 0, Sx⟩ H) := fun b o hb => by
      unfold hide at hb
      split at hb
      · cases hb
      · rename_i hb'
        refine msk_mk hb fun z => ?_
        rcases z with z | ⟨i, es, z1, _⟩
        · exact hb' z
        · rw [List.getElem?_append] at z1
          split at z1
          · rw [List.getElem?_map] at z1
            cases e : ds[i]? with
            | none => rw [e] at z1; cases z1
            | some d => rw [e] at z1; cases z1
          · rw [List.getElem?_replicate] at z1
            split at z1 <;> cases z1
    have hNl : ps.length ≤ N.length := by
      have := congrArg List.length S.pre
      rw [List.length_take] at this
      omega
    refine hs ⟨fun _ => 0, Sx⟩ _ (L2.start N vs) H _ _ ?_ q ⟨fun ad' Γ' σ' H' C s' q => ?_, fun v H' d s' r' q => ?_, fun _ _ _ _ _ _ z => z.elim, fun _ _ _ _ _ _ z => z.elim⟩
    · have own_no : ∀ (i : Nat) (es : List D), (ds.map En.im ++ List.replicate (N.length - ds.length) En.no)[i]? = some (.own es) → False := fun i es z1 => by
        rw [List.getElem?_append] at z1
        split at z1
        · rw [List.getElem?_map] at z1
          cases e : ds[i]? with
          | none => rw [e] at z1; cases z1
          | some d => rw [e] at z1; cases z1
        · rw [List.getElem?_replicate] at z1
          split at z1 <;> cases z1
      refine ⟨?_, Same.refl _, fun b hb => ?_, fun i d z1 => ?_, fun i es z1 => (own_no i es z1).elim, fun i ns z1 => ?_, fun i j d1 d2 z1 => (own_no i d1 z1).elim, h2, fun i es z1 => (own_no i es z1).elim, fun b hb => hb⟩
      · unfold L2.start
        rw [List.length_append, List.length_append, List.length_map, List.length_map, List.length_replicate, List.length_replicate, hl]
      · rcases hb with hb | ⟨i, es, z1, _⟩
        · exact .inl hb
        · exact (own_no i es z1).elim
      · rw [List.getElem?_append] at z1
        split at z1
        · rename_i hi
          rw [List.length_map] at hi
          rw [List.getElem?_map] at z1
          cases e : ds[i]? with
          | none => rw [e] at z1; cases z1
          | some d' =>
            rw [e] at z1; cases z1
            obtain ⟨v, g1, g2⟩ := h1.get e
            refine ⟨v, ?_, g2.mono sm⟩
            unfold L2.start
            rw [List.getElem?_append_left (by rw [List.length_map, hl]; exact hi), List.getElem?_map, g1]
            rfl
        · rw [List.getElem?_replicate] at z1
          split at z1 <;> cases z1
      · rw [List.getElem?_append] at z1
        split at z1
        · rw [List.getElem?_map] at z1
          cases e : ds[i]? with
          | none => rw [e] at z1; cases z1
          | some d => rw [e] at z1; cases z1
        · rw [List.getElem?_replicate] at z1
          split at z1 <;> cases z1
    · have q' : r = .ok .none := q
      subst q'
      exact h4 .non H' C.same .non
    · have q' : r = .ok d := q
      subst q'
      exact h4 v H' s' r'
end
end DL

set_option Elab.async false
set_option linter.all false
set_option maxRecDepth 100000
set_option maxHeartbeats 2000000
namespace DL
open PySem PySem.Spec L2
set_option autoImplicit false
def wRet (a : DE) : DS := fun D₁ Γ => a Γ D₁.rt
/-- the built-in names that are still the built-ins -/
structure Bi (mg : Str → Option Value) : Prop where
  len : mg "len" = none
  range : mg "range" = none
  isinstance : mg "isinstance" = none
  int : mg "int" = none
  bool : mg "bool" = none
  tuple : mg "tuple" = none
  list : mg "list" = none
  str : mg "str" = none
  max : mg "max" = none
  min : mg "min" = none
  abs : mg "abs" = none
  sum : mg "sum" = none
  sorted : mg "sorted" = none
  zip : mg "zip" = none
theorem len2 {a b : DG} (ds : List D) (Γ : Ct) (P : Ct → Prop) : dCons a (dCons b dNil) ds Γ P → True := fun _ => trivial
/-! ### the script -/
def cellD (ns : List Int) (k : Int) : Int := ns.getD k.toNat 0
/-- the promise of a def whose first argument is the script -/
def spS (K : PySem.W.Frag) (R : List Int → List D → D → Prop) : Sp := fun vs H Q _ => ∃ a ns vs' ds d S, vs = .ref a :: vs' ∧ SqL K (hide S H) a (ns.map V.int) ∧ RpAll K (hide S H) vs' ds ∧ (∀ b, S b → ∃ ws, H b = some (.lst ws)) ∧ R ns ds d ∧
  ∀ v H', Same H H' → Rp K (hide S H') v d → Q v H'
section
variable {P : Program} {w : World} {K : PySem.W.Frag} {mg : Str → Option Value} {base : Heap}
def startS (N : List Str) (ns : List Int) (ds : List D) : Ct := En.scr ns :: (ds.map En.im ++ List.replicate (N.length - (ds.length + 1)) En.no)
theorem startS_get {N : List Str} {ns : List Int} {ds : List D} {i : Nat} {e : En} (h : (startS N ns ds)[i]? = some e) : (i = 0 ∧ e = .scr ns) ∨ (∃ j d, i = j + 1 ∧ ds[j]? = some d ∧ e = .im d) ∨ e = .no := by
  unfold startS at h
  cases i with
  | zero => exact .inl ⟨rfl, (Option.some.inj h).symm⟩
  | succ j =>
    rw [List.getElem?_cons_succ, List.getElem?_append] at h
    split at h
    · rw [List.getElem?_map] at h
      cases e' : ds[j]? with
      | none => rw [e'] at h; cases h
      | some d => rw [e'] at h; exact .inr (.inl ⟨j, d, rfl, e', (Option.some.inj h).symm⟩)
    · rw [List.getElem?_replicate] at h
      split at h
      · exact .inr (.inr (Option.some.inj h).symm)
      · cases h
theorem mk_scr {x qual : Str} {st : Stmt} {f : Addr} {fd : FuncData} {N ps : List Str} {k : Nat} {cl : Nat → Addr} {R : List Int → List D → D → Prop} (F : Fun K x qual st f fd) (S : FnScope N ps (defScope st)) (len : ∀ ns ds d, R ns ds d → ds.length + 1 = ps.length)
    (hbody : ∀ (f : Addr) (cdv : Value) (A : Around) (outer : List Env) (s : Shared) (H : Hp) (E : XK) (F' : Fx) hr pss, F'.cl = cl →
      (mkBd P w K mg base N S.nd qual (defScope st) k f cdv A outer s H E F' hr pss).Body →
      ∃ w', SS (mkBd P w K mg base N S.nd qual (defScope st) k f cdv A outer s H E F' hr pss) (defBody st) w' ∧
        ∀ ns ds d, R ns ds d → w' { nx := fun _ => d = .none, rt := fun d' => d = d' } (startS N ns ds)) :
    FnOk P w K mg base (L2.CX P w) (k + 1) f fd ps (spS K R) := by
  refine F.okX S (fun vs H Q E h => ?_) (fun cdv A outer s H vs Q E hr h => ?_)
  · obtain ⟨a, ns, vs', ds, d, Sx, rfl, h1, h2, _, h3, _⟩ := h
    rw [List.length_cons, h2.length, len ns ds d h3]
  · obtain ⟨a, ns, vs', ds, d, Sx, rfl, h1, h2, hS, h3, h4⟩ := h
    have hl : vs'.length = ds.length := h2.length
    obtain ⟨w', ⟨t, ht, hs⟩, hw⟩ := hbody f cdv A outer s H E { H0 := H, Ex := fun _ => False, Wx := E0, cl := cl, S := Sx, good := fun _ _ _ z => z.elim } hr passL rfl
      ⟨fun _ => takes0, fun _ => passes_of rfl, fun _ => rfl, fun _ => rfl⟩
    refine ⟨t, ht (), ?_⟩
    have q := hw ns ds d h3
    have own_no : ∀ (i : Nat) (es : List D), (startS N ns ds)[i]? = some (.own es) → False := fun i es z => by
      rcases startS_get z with ⟨_, e⟩ | ⟨_, _, _, _, e⟩ | e <;> cases e
    have sm : Same (hide Sx H) (msk (startS N ns ds) ⟨fun _ => 0, Sx⟩ H) := fun b o hb => by
      unfold hide at hb
      split at hb
      · cases hb
      · rename_i hb'
        refine msk_mk hb fun z => ?_
        rcases z with z | ⟨i, es, z1, _⟩
        · exact hb' z
        · exact own_no i es z1
    have hNl : ps.length ≤ N.length := by
      have := congrArg List.length S.pre
      rw [List.length_take] at this
      omega
    refine hs ⟨fun _ => 0, Sx⟩ _ (L2.start N (.ref a :: vs')) H _ _ ?_ q ⟨fun ad' Γ' σ' H' C s' q => ?_, fun v H' d' s' r' q => ?_, fun _ _ _ _ _ _ z => z.elim, fun _ _ _ _ _ _ z => z.elim⟩
    · refine ⟨?_, Same.refl _, fun b hb => ?_, fun i d' z1 => ?_, fun i es z1 => (own_no i es z1).elim, fun i ns' z1 => ?_, fun i j d1 d2 z1 => (own_no i d1 z1).elim, hS, fun i es z1 => (own_no i es z1).elim, fun b hb => hb⟩
      · unfold L2.start startS
        simp only [List.length_cons, List.length_append, List.length_map, List.length_replicate, hl]
        omega
      · rcases hb with hb | ⟨i, es, z1, _⟩
        · exact .inl hb
        · exact (own_no i es z1).elim
      · rcases startS_get z1 with ⟨_, e⟩ | ⟨j, d2, rfl, e1, e⟩ | e
        · cases e
        · cases e
          obtain ⟨v, g1, g2⟩ := h2.get e1
          refine ⟨v, ?_, g2.mono sm⟩
          unfold L2.start
          have hj : j < vs'.length := (List.getElem?_eq_some_iff.mp g1).1
          rw [List.getElem?_append_left (by rw [List.length_map, List.length_cons]; omega), List.getElem?_map, List.getElem?_cons_succ, g1]
          rfl
        · cases e
      · rcases startS_get z1 with ⟨rfl, e⟩ | ⟨j, d2, rfl, e1, e⟩ | e
        · cases e
          exact ⟨a, rfl, sm.seq h1⟩
        · cases e
        · cases e
    · have q' : d = .none := q
      subst q'
      exact h4 .non H' C.same .non
    · have q' : d = d' := q
      subst q'
      exact h4 v H' s' r'
end
section
variable {B : Bd}
/-- _law_cell_at(script, k) -/
structure ClS (P : Program) (w : World) (K : PySem.W.Frag) (mg : Str → Option Value) (base : Heap) (k : Nat) (x : Str) (R : List Int → List D → D → Prop) : Prop where
  ex : ∃ f fd ps, FnOk P w K mg base (L2.CX P w) k f fd ps (spS K R) ∧ mg x = some (.ref f) ∧ PySem.W.keepIn K (.ref f) = true ∧ Binds K fd ps []
def R_cell : List Int → List D → D → Prop := fun ns ds d => ∃ k, ds = [.int k] ∧ 0 ≤ k ∧ d = .int (cellD ns k)
def cellP (ns : List Int) (P : D → Prop) : D → Prop
  | .int k => 0 ≤ k ∧ P (.int (cellD ns k))
  | _ => False
def eCell (i : Nat) (b : DE) : DE := fun Γ P => match Γ[i]? with
  | some (.scr ns) => b Γ (cellP ns P)
  | _ => False
theorem ee_cell (i : Nat) {k : Nat} {x y : Str} {e : Expr} {wb : DE} {p p2 pos : Pos} (G : ClS B.P B.w B.K B.mg B.base k x R_cell) (hb : EE B e wb) (hk : k ≤ B.k := by exact Nat.le_of_ble_eq_true rfl) (hN : B.N[i]? = some y := by rfl) (hv : ∀ j, Vis (B.X j).env.scope y := by intro _; first | exact Or.inl rfl | exact Or.inr (Or.inl rfl) | exact Or.inr (Or.inr rfl))
    (hd : (y == ("__debug__" : Str)) = false := by decide) (hcd : (y == ("__classdict__" : Str)) = false := by decide) (hg : ∀ j, Gl (B.X j) x := by intro _; rfl) (hdb : (x == ("__debug__" : Str)) = false := by decide)
    (he : ∀ j, starEach [.Name y p2, e] (B.X j).env = (false, eval (.Name y p2) (B.X j).env) :: starEach [e] (B.X j).env := by intro _; rfl) (he2 : ∀ j, starEach [e] (B.X j).env = (false, eval e (B.X j).env) :: starEach [] (B.X j).env := by intro _; rfl) (hpl : ∀ j, (backTo pos (starEach [e] (B.X j).env)).any (·.1) = false := by intro _; rfl) :
    EE B (.Call (.Name x p) [.Name y p2, e] [] pos) (eCell i wb) := by
  obtain ⟨tb, pb, sb⟩ := hb
  obtain ⟨f, fd, ps, F, hm, hkp, hbd⟩ := G.ex
  refine ⟨tCall (spS B.K R_cell) [] E0 (tCons (tVar i) (tCons tb tNil)), fun j => ?_, fun ad Γ σ H P Q C h k => ?_⟩
  · have e1 := B.hP j
    have e2 := B.hw j
    have e3 := B.hK j
    have e4 := B.hmg j
    have e5 := B.hbase j
    have F' := F
    rw [← e1, ← e2, ← e3, ← e4, ← e5] at F'
    rw [← e3] at hkp hbd
    rw [← e4] at hm
    have F2 : FnOk (B.X j).prog (B.X j).w (B.X j).K (B.X j).mg (B.X j).base (L2.CX (B.X j).prog (B.X j).w) k f fd ps (spS B.K R_cell) := by
      rw [← e3]; exact F'
    exact pe_call F2 ((B.hr j).mono hk) (hg j) hm hkp hbd .nil passL (pa_cons (pe_var (i := i) (by rw [B.hN]; exact hN) (hv j) hd hcd) (pa_cons (pb j) pa_nil (he2 j)) (he j)) hdb (he j) (hpl j)
  · unfold eCell at h
    split at h
    · rename_i ns hi
      obtain ⟨a, h1, h2⟩ := C.scr i ns hi
      refine ⟨_, h1, sb ad Γ σ H _ _ C h fun v H1 d e1 r q => ?_⟩
      unfold cellP at q
      split at q
      · cases r
        show spS B.K R_cell ([V.ref a, V.int _] ++ []) H1 Q E0
        have C1 := C.grow e1
        exact ⟨a, ns, _, _, _, Owned Γ ad, rfl, (msk_same e1).seq h2, .cons (.int _) .nil, fun b hb => C1.owned_some hb, ⟨_, rfl, q.1, rfl⟩, fun v H' s' r' => k v H' _ (e1.trans s') r' q.2⟩
      · exact q.elim
    · exact h.elim
/-- a chain of two comparisons -/
def Ch1 (B : Bd) (op : CmpOp) (r : R2) (w : D2) : Prop := (∀ j, OpR (B.X j) (compareOp op) r) ∧ SndR (B := B) r w
theorem ch_lt : Ch1 B .Lt (rI0 fun i j => .bl (decide (i < j))) dLt := ⟨fun _ => op_lt, snd_rB⟩
theorem ch_le : Ch1 B .LtE (rI0 fun i j => .bl (decide (i ≤ j))) dLe := ⟨fun _ => op_le, snd_rB⟩
end
end DL
namespace DL
open PySem PySem.Spec L2
set_option autoImplicit false
/-- what a division by a great number wants of the world -/
structure PyOk (P : Program) (w : World) (K : PySem.W.Frag) (mg : Str → Option Value) (base : Heap) : Prop where
  seer : base.NoSeer
  tree : P.given.tree = none
theorem PyOk.body {P : Program} {w : World} {K : PySem.W.Frag} {mg : Str → Option Value} {base : Heap} (h : PyOk P w K mg base) {N : List Str} {nd : N.Nodup} {qual : Str} {sc : Scope} {k : Nat} (f : Addr) (cdv : Value) (A : Around) (outer : List Env) (s : Shared) (H : Hp) (E : XK) (F : Fx)
    (hr : Room k (A.deeper (PyProof.Rows.envOfC qual sc s.heap.objs.size f cdv))) (ps : Passes (L2.CX P w) (cxOf (L2.CX P w) P w K mg base N qual sc f cdv A outer s H E) F.Wx) (hk : 33 ≤ k := by decide) (hg : sc.isGenerator = false := by rfl) (hc : sc.isCoroutine = false := by rfl) :
    (mkBd P w K mg base N nd qual sc k f cdv A outer s H E F hr ps).Pyl := fun i pins σ H' s' I => by
  have hs : s'.heap.NoSeer := h.seer.keeps I.bk
  refine PySem.PylongRoom.of I.nolimit ?_ (SeerAt.of hs h.tree I.ok.frames hg hc rfl rfl)
  have := hr.dp
  show (A.deeper _).depth + 100 < _
  omega
end DL

set_option Elab.async false
set_option linter.all false
set_option maxRecDepth 100000
set_option maxHeartbeats 2000000
namespace DL
open PySem PySem.Spec L2
set_option autoImplicit false
/-- within a try: arguments, which raise nothing -/
def Bd.tr0 (B : Bd) : Bd where
  ι := B.ι × List (Addr × Obj) × (Value → Shared → Prop)
  X := fun j => (B.X j.1).tr j.2.1 j.2.2
  P := B.P
  w := B.w
  K := B.K
  mg := B.mg
  base := B.base
  N := B.N
  k := B.k
  F := { H0 := B.F.H0, Ex := fun _ => False, Wx := E0, cl := B.F.cl, S := B.F.S, good := fun _ _ _ h => h.elim }
  hP := fun j => B.hP j.1
  hw := fun j => B.hw j.1
  hK := fun j => B.hK j.1
  hmg := fun j => B.hmg j.1
  hbase := fun j => B.hbase j.1
  hN := fun j => B.hN j.1
  nd := B.nd
  hr := fun j => ⟨(B.hr j.1).hd, (B.hr j.1).dp, (B.hr j.1).un⟩
  calm := fun j => B.calm j.1
  pass := fun j => by
    have e1 := B.hP j.1
    have e2 := B.hw j.1
    rw [← e1, ← e2]
    exact passL (X := (B.X j.1).tr j.2.1 j.2.2)
abbrev DTr := Ct → Prop → (Nat → Prop) → Prop
section
variable {B : Bd}
/-- the body of a try that stores nothing -/
def TB (B : Bd) (body : List Stmt) (w : DTr) : Prop := ∃ t : WX → TS, (∀ j pn xe W, Takes ((B.X j).tr pn xe) W → PassesOwn (model (B.X j).prog (B.X j).w) (B.X j).A (B.X j).env xe → PSs ((B.X j).tr pn xe) body (t W)) ∧
  ∀ (W : WX) (ad : Ad) (Γ : Ct) (σ : L2.St) (H : Hp) (Dn : Prop) (ek : Nat → Prop) (T : Ends), Cq B.K B.F ad Γ σ H → w Γ Dn ek → (∀ H', Same H H' → Dn → T.nx σ H') → (∀ g H', Same H H' → ek g → W (.ref (B.F.cl g)) none σ H') → t W T σ H
def trCall (R : List D → Res → Prop) (a : DL_) : DTr := fun Γ Dn ek => a Γ fun ds => ∃ r, R ds r ∧ match r with
  | .ok _ => Dn
  | .err g => ek g
theorem tb_call {k : Nat} {x : Str} {R : List D → Res → Prop} {e : Expr} {es : List Expr} {wa : DL_} {p pos pos2 : Pos} (G : Cl B.P B.w B.K B.mg B.base B.F.cl k x R) (ha : EA B.tr0 (e :: es) wa) (hk : k ≤ B.k := by exact Nat.le_of_ble_eq_true rfl) (hg : ∀ j, Gl (B.X j) x := by intro _; rfl)
    (hdb : (x == ("__debug__" : Str)) = false := by decide) (he : ∀ j, starEach (e :: es) (B.X j).env = (false, eval e (B.X j).env) :: starEach es (B.X j).env := by intro _; rfl) (hpl : ∀ j, (backTo pos (starEach es (B.X j).env)).any (·.1) = false := by intro _; rfl)
    (hs : ∀ j, swapsWith (.Call (.Name x p) (e :: es) [] pos) none pos2.line (B.X j).env = pure false := by intro _; rfl) : TB B [.Expr (.Call (.Name x p) (e :: es) [] pos) pos2] (trCall R wa) := by
  obtain ⟨ta, pa, sa⟩ := ha
  obtain ⟨f, fd, ps, F, hm, hkp, hb⟩ := G.ex
  refine ⟨fun W => tDrop (tCallS (spR B.K B.F.cl R) (WE W) ta), fun j pn xe W tk po => ?_, fun W ad Γ σ H Dn ek T C h hn hx => ?_⟩
  · have e1 := B.hP j
    have e2 := B.hw j
    have e3 := B.hK j
    have e4 := B.hmg j
    have e5 := B.hbase j
    have F' := F
    rw [← e1, ← e2, ← e3, ← e4, ← e5] at F'
    rw [← e3] at hkp hb
    rw [← e4] at hm
    have F2 : FnOk (B.X j).prog (B.X j).w (B.X j).K (B.X j).mg (B.X j).base (L2.CX (B.X j).prog (B.X j).w) k f fd ps (spR B.K B.F.cl R) := by
      rw [← e3]; exact F'
    have hr : Room k ((B.X j).tr pn xe).A := ⟨((B.hr j).mono hk).hd, ((B.hr j).mono hk).dp, ((B.hr j).mono hk).un⟩
    exact pss_one (ps_expr (pe_callS (X := (B.X j).tr pn xe) F2 hr (hg j) hm hkp hb (fun σ => passAt tk σ) (pa (j, pn, xe)) hdb (he j) (hpl j)) (hs j))
  · refine sa ad Γ σ H _ _ (C.fx rfl rfl) h fun vs H1 ds e1 r1 _ q1 => ?_
    obtain ⟨r, hR, q1⟩ := q1
    have C1 := C.grow e1
    refine ⟨ds, r, Owned Γ ad, r1, fun b hb => C1.owned_some hb, hR, ?_⟩
    cases r with
    | ok d => exact fun v H' e2 _ => hn H' (e1.trans e2) q1
    | err g => exact fun H' e2 => hx g H' (e1.trans e2) q1
def trIf (c : DT) (a b : DTr) : DTr := fun Γ Dn ek => c Γ fun k => match k with
  | true => a Γ Dn ek
  | false => b Γ Dn ek
theorem tb_if {c : Expr} {a b : List Stmt} {wc : DT} {wa wb : DTr} {pos : Pos} (hc : ET B.tr0 c wc) (ha : TB B a wa) (hb : TB B b wb) : TB B [.If c a b pos] (trIf wc wa wb) := by
  obtain ⟨tc, pc, sc⟩ := hc
  obtain ⟨ta, pa, sa⟩ := ha
  obtain ⟨tb, pb, sb⟩ := hb
  refine ⟨fun W => tIfS tc (ta W) (tb W), fun j pn xe W tk po => pss_one (ps_if (pc (j, pn, xe)) (pa j pn xe W tk po) (pb j pn xe W tk po)), fun W ad Γ σ H Dn ek T C h hn hx => ?_⟩
  refine sc ad Γ σ H _ _ (C.fx rfl rfl) h fun k H1 e1 q => ?_
  cases k with
  | true => rw [if_pos rfl]; exact sa W ad Γ σ H1 Dn ek T (C.grow e1) q (fun H' e => hn H' (e1.trans e)) (fun g H' e => hx g H' (e1.trans e))
  | false => rw [if_neg Bool.false_ne_true]; exact sb W ad Γ σ H1 Dn ek T (C.grow e1) q (fun H' e => hn H' (e1.trans e)) (fun g H' e => hx g H' (e1.trans e))
/-- try: .. except C: return True, where all that comes is C's -/
def wTryOnly (gs : List Nat) (w : DTr) : DS := fun D₁ Γ => w Γ (D₁.nx Γ) fun g => g ∈ gs ∧ D₁.rt (.bool true)
theorem s1_tryOnly (g0 : Nat) (gs : List Nat) {x : Str} {body : List Stmt} {w : DTr} {j : Nat} {np p1 p2 pos pos' : Pos} (hB : B.Body) (hb : TB B body w) (hx : B.mg x = some (.ref (B.F.cl g0))) (hm : ∀ g ∈ gs, PySem.W.exmOne B.K (.ref (B.F.cl g)) (.ref (B.F.cl g0)) = some true) (hg : ∀ j, Gl (B.X j) x := by intro _; rfl) (hdb : (x == ("__debug__" : Str)) = false := by decide) :
    S1 B (.Try body [.ExceptHandler (some (.Name x np)) none [.Return (some (.Constant (.bool true) j p1)) p2] pos'] [] [] pos) (wTryOnly gs w) := by
  obtain ⟨t, pt, st⟩ := hb
  refine ⟨fun D σ H => t (wOnly B.K (.ref (B.F.cl g0)) (fun _ _ _ => tRet (tC (.bl true))) (fun _ _ _ _ => False) D) D σ H, fun l => ?_, fun ad Γ σ H D₁ T C h L => ?_⟩
  · have e := B.hK l
    have e4 := B.hmg l
    rw [← e]
    exact ps_try_only (hB.stk l) (hB.frm l) ⟨hg l, hdb, .inl (by rw [e4]; exact hx)⟩ takes0 (fun W pn xe tk po => pt l pn xe W tk po) (fun a oe cls d pn _ _ => pss_one (ps_ret pe_bl))
  · refine st _ ad Γ σ H _ _ T C h (fun H' e q => L.nx ad Γ σ H' (C.grow e) (msk_same e) q) fun g H' e q => ?_
    exact ⟨true, hm g q.1, fun _ a _ => L.rt (.bl true) H' _ (C.same.trans e) (.bl true) q.2, fun z => nomatch z⟩
/-! ### what an except suite asks of its error -/
/-- the suite for an error of the class at Dc, in slot i; it gives back v -/
def SU (B : Bd) (i : Nat) (Dc : Addr) (suite : List Stmt) (v : D) : Prop := ∃ ts : Addr → TS, (∀ j a oe pn, Zc (.ref Dc) none oe → (∃ vs, oe.data = .fields vs) → PSs ((B.X j).suite a ((a, oe) :: pn)) suite (ts a)) ∧
  ∀ (a : Addr) (σ : L2.St) (H : Hp) (T : Ends), σ.length = B.N.length → (∀ u H', Same H H' → Rp B.K (hide B.F.S H') u v → T.rt u H') → (∀ b, B.F.S b → H b ≠ none) → ts a T (σ.set i (some (.ref a))) H
def wTryAs (n : Nat) (res : Nat → Option D) (w : DTr) : DS := fun D₁ Γ => w Γ (D₁.nx Γ) fun g => Γ.length = n ∧ ∃ v, res g = some v ∧ D₁.rt v
open Classical in
noncomputable def suiteOf (cl : Nat → Addr) (res : Nat → Option D) (ts : (g : Nat) → Addr → TS) : Addr → Value → Option Addr → TS := fun a cls d =>
  if h : d = none ∧ ∃ g v, res g = some v ∧ cls = .ref (cl g) then ts (Classical.choose h.2) a else tNever
theorem s1_tryAs (i g0 n0 : Nat) (res : Nat → Option D) {x n : Str} {body suite : List Stmt} {b₀ : Stmt} {w : DTr} {np pos pos' : Pos} (hB : B.Body) (hb : TB B body w) (hx : B.mg x = some (.ref (B.F.cl g0))) (hm : ∀ g v, res g = some v → PySem.W.exmOne B.K (.ref (B.F.cl g)) (.ref (B.F.cl g0)) = some true)
    (hsu : ∀ g v, res g = some v → SU B i (B.F.cl g) (b₀ :: suite) v) (hinj : ∀ g g' v v', res g = some v → res g' = some v' → B.F.cl g = B.F.cl g' → g = g') (hn0 : B.N.length = n0 := by rfl) (hi : B.N[i]? = some n := by rfl) (hln : ∀ j, (B.X j).env.kindOf n = some .local := by intro _; rfl) (hg : ∀ j, Gl (B.X j) x := by intro _; rfl) (hdb : (x == ("__debug__" : Str)) = false := by decide) :
    S1 B (.Try body [.ExceptHandler (some (.Name x np)) (some n) (b₀ :: suite) pos'] [] [] pos) (wTryAs n0 res w) := by
  obtain ⟨t, pt, st⟩ := hb
  have hs : ∀ g, ∃ ts : Addr → TS, ∀ v, res g = some v → (∀ j a oe pn, Zc (.ref (B.F.cl g)) none oe → (∃ vs, oe.data = .fields vs) → PSs ((B.X j).suite a ((a, oe) :: pn)) (b₀ :: suite) (ts a)) ∧
      ∀ (a : Addr) (σ : L2.St) (H : Hp) (T : Ends), σ.length = B.N.length → (∀ u H', Same H H' → Rp B.K (hide B.F.S H') u v → T.rt u H') → (∀ b, B.F.S b → H b ≠ none) → ts a T (σ.set i (some (.ref a))) H := fun g => by
    cases e : res g with
    | none => exact ⟨fun _ => tNever, fun v z => nomatch z⟩
    | some v =>
      obtain ⟨ts, h1, h2⟩ := hsu g v e
      exact ⟨ts, fun v' z => by cases z; exact ⟨h1, h2⟩⟩
  obtain ⟨ts, hts⟩ := Classical.axiomOfChoice hs
  refine ⟨fun D σ H => t (wAs B.K (.ref (B.F.cl g0)) i (suiteOf B.F.cl res ts) (fun _ _ _ _ => False) D) D σ H, fun l => ?_, fun ad Γ σ H D₁ T C h L => ?_⟩
  · have e := B.hK l
    have e4 := B.hmg l
    rw [← e]
    refine ps_try_as (hB.stk l) (hB.frm l) (by rw [B.hN]; exact B.nd) (by rw [B.hN]; exact hi) (hln l) ⟨hg l, hdb, .inl (by rw [e4]; exact hx)⟩ takes0 (fun W pn xe tk po => pt l pn xe W tk po) (fun a oe cls d pn hz hf => ?_)
    unfold suiteOf
    split
    · rename_i hh
      obtain ⟨v, h1, h2⟩ := Classical.choose_spec hh.2
      have hd := hh.1
      subst hd
      have := (hts (Classical.choose hh.2) v h1).1 l a oe pn
      rw [← h2] at this
      exact this hz hf
    · exact pss_never
  · refine st _ ad Γ σ H _ _ T C h (fun H' e q => L.nx ad Γ σ H' (C.grow e) (msk_same e) q) fun g H' e q => ?_
    obtain ⟨hlen, v, hv, q⟩ := q
    refine ⟨true, hm g v hv, fun _ a _ => ?_, fun z => nomatch z⟩
    have C' := C.grow e
    unfold suiteOf
    have hh : (none : Option Addr) = none ∧ ∃ g' v', res g' = some v' ∧ Value.ref (B.F.cl g) = Value.ref (B.F.cl g') := ⟨rfl, g, v, hv, rfl⟩
    rw [dif_pos hh]
    obtain ⟨v2, h1, h2⟩ := Classical.choose_spec hh.2
    have hge : g = Classical.choose hh.2 := hinj _ _ _ _ hv h1 (by injection h2)
    have hv2 : res (Classical.choose hh.2) = some v := by rw [← hge]; exact hv
    refine (hts (Classical.choose hh.2) v hv2).2 a σ H' _ ?_ (fun u H2 e2 r => L.rt u H2 v ((C.same.trans e).trans e2) r q) fun b hb => ?_
    · rw [← C.len, hlen, hn0]
    · obtain ⟨vs, z⟩ := C'.hid b (C'.hidS b hb)
      rw [z]; exact fun y => nomatch y
/-- isinstance(e, C), in the suite -/
def tIsE (i : Nat) (a : Addr) (b : Bool) : TE := fun σ H Q => σ[i]? = some (some (.ref a)) ∧ Q (.bl b) H
theorem pe_isE {i : Nat} {n x : Str} {Dc a : Addr} {oe : Obj} {pn : List (Addr × Obj)} {j : B.ι} {b : Bool} {c : V} {cv : Value} {p p1 p2 pos : Pos} (hX : ExcC B.K Dc) (hz : Zc (.ref Dc) none oe) (hf : ∃ vs, oe.data = .fields vs) (hm : B.mg "isinstance" = none) (hkit : PySem.W.kitOne B.K (.ref Dc) cv = some b)
    (hc : PE ((B.X j).suite a ((a, oe) :: pn)) (.Name x p2) (tC c)) (hcv : ∀ u, RelV c u → u = cv) (hN : B.N[i]? = some n) (hv : Vis (B.X j).env.scope n) (hd : (n == ("__debug__" : Str)) = false) (hcd : (n == ("__classdict__" : Str)) = false) (hg : Gl (B.X j) "isinstance")
    (he : starEach [.Name n p1, .Name x p2] (B.X j).env = (false, eval (.Name n p1) (B.X j).env) :: starEach [.Name x p2] (B.X j).env) (he2 : starEach [.Name x p2] (B.X j).env = (false, eval (.Name x p2) (B.X j).env) :: starEach [] (B.X j).env) (hpl : (backTo pos (starEach [.Name x p2] (B.X j).env)).any (·.1) = false) :
    PE ((B.X j).suite a ((a, oe) :: pn)) (.Call (.Name "isinstance" p) [.Name n p1, .Name x p2] [] pos) (tIsE i a b) := by
  have e := B.hK j
  rw [← e] at hX hkit
  have P := pe_callB (X := (B.X j).suite a ((a, oe) :: pn)) (x := "isinstance") (p := p) (pos := pos) (call_isE (X := B.X j) (pn := pn) hX hz hf) hg (by show (B.X j).mg "isinstance" = none; rw [B.hmg]; exact hm) (by decide +kernel) (pa_cons (X := (B.X j).suite a ((a, oe) :: pn)) (pe_var (X := (B.X j).suite a ((a, oe) :: pn)) (i := i) (by show (B.X j).N[i]? = _; rw [B.hN]; exact hN) hv hd hcd) (pa_cons hc pa_nil he2) he) (by decide) (by decide) he hpl
  refine ⟨fun pins s σ H Q I h => P.run pins s σ H Q I ?_⟩
  obtain ⟨h1, h2⟩ := h
  exact ⟨_, h1, c, cv, b, rfl, hcv, hkit, h2⟩
/-- kinds = [isinstance(e, A), isinstance(e, B)]; return isinstance(e, C) and isinstance(e, T) and kinds == [False, False] -/
theorem su_two {i ik : Nat} {n kn xA xB xC : Str} {Dc cA cB cC : Addr} {p1 p2 p3 p4 p5 p6 p7 p8 p9 p10 p11 p12 p13 p14 p15 p16 p17 p18 p19 p20 p21 p22 p23 p24 p25 p26 : Pos} {k1 k2 : Nat} (hX : ExcC B.K Dc) (hm : B.mg "isinstance" = none)
    (gA : B.mg xA = some (.ref cA)) (gB : B.mg xB = some (.ref cB)) (gC : B.mg xC = some (.ref cC)) (gV : B.mg "ValueError" = none)
    (kA : PySem.W.kitOne B.K (.ref Dc) (.ref cA) = some false) (kB : PySem.W.kitOne B.K (.ref Dc) (.ref cB) = some false) (kC : PySem.W.kitOne B.K (.ref Dc) (.ref cC) = some true) (kV : PySem.W.kitOne B.K (.ref Dc) (.type "ValueError") = some true)
    (hN : B.N[i]? = some n) (hNk : B.N[ik]? = some kn) (hne : i ≠ ik) (hv : ∀ j, Vis (B.X j).env.scope n) (hvk : ∀ j, (B.X j).env.scope.names.lookup kn = some .local) (hd : (n == ("__debug__" : Str)) = false) (hcd : (n == ("__classdict__" : Str)) = false) (hdk : (kn == ("__debug__" : Str)) = false) (hcdk : (kn == ("__classdict__" : Str)) = false)
    (hgi : ∀ j, Gl (B.X j) "isinstance") (hgA : ∀ j, Gl (B.X j) xA) (hgB : ∀ j, Gl (B.X j) xB) (hgC : ∀ j, Gl (B.X j) xC) (hgV : ∀ j, Gl (B.X j) "ValueError") (dA : (xA == ("__debug__" : Str)) = false) (dB : (xB == ("__debug__" : Str)) = false) (dC : (xC == ("__debug__" : Str)) = false)
    (st1 : ∀ j x p p', starEach [.Name n p, .Name x p'] (B.X j).env = (false, eval (.Name n p) (B.X j).env) :: starEach [.Name x p'] (B.X j).env) (st2 : ∀ j x p', starEach [.Name x p'] (B.X j).env = (false, eval (.Name x p') (B.X j).env) :: starEach [] (B.X j).env) (st3 : ∀ j x p' pos, (backTo pos (starEach [.Name x p'] (B.X j).env)).any (·.1) = false)
    (st4 : ∀ j (a b : Expr), (∃ q1 q2 q3 q4, a = .Call (.Name "isinstance" q1) [.Name n q2, .Name xA q3] [] q4) → (∃ q1 q2 q3 q4, b = .Call (.Name "isinstance" q1) [.Name n q2, .Name xB q3] [] q4) → starEach [a, b] (B.X j).env = (false, eval a (B.X j).env) :: starEach [b] (B.X j).env ∧ starEach [b] (B.X j).env = (false, eval b (B.X j).env) :: starEach [] (B.X j).env)
    (st5 : ∀ j, starEach [.Constant (.bool false) k1 p22, .Constant (.bool false) k2 p23] (B.X j).env = (false, eval (.Constant (.bool false) k1 p22) (B.X j).env) :: starEach [.Constant (.bool false) k2 p23] (B.X j).env ∧ starEach [.Constant (.bool false) k2 p23] (B.X j).env = (false, eval (.Constant (.bool false) k2 p23) (B.X j).env) :: starEach [] (B.X j).env)
    (sw : ∀ j, swapsWith (.List [.Call (.Name "isinstance" p2) [.Name n p3, .Name xA p4] [] p5, .Call (.Name "isinstance" p6) [.Name n p7, .Name xB p8] [] p9] p10) (some (.Name kn p1)) p11.line (B.X j).env = pure false) :
    SU B i Dc [.Assign [.Name kn p1] (.List [.Call (.Name "isinstance" p2) [.Name n p3, .Name xA p4] [] p5, .Call (.Name "isinstance" p6) [.Name n p7, .Name xB p8] [] p9] p10) p11,
      .Return (some (.BoolOp .And [.Call (.Name "isinstance" p12) [.Name n p13, .Name xC p14] [] p15, .Call (.Name "isinstance" p16) [.Name n p17, .Name "ValueError" p18] [] p19, .Compare (.Name kn p20) [.Eq] [.List [.Constant (.bool false) k1 p22, .Constant (.bool false) k2 p23] p21] p24] p25)) p26] (.bool true) := by
  refine ⟨fun a => tSeq (tAsg (tLst (tCons (tIsE i a false) (tCons (tIsE i a false) tNil))) (gName ik)) (tRet (tAndV (tIsE i a true) (tAndV (tIsE i a true) (tOp (rEqA B.K) (tVar ik) (tLst (tCons (tC (.bl false)) (tCons (tC (.bl false)) tNil))))))), fun j a oe pn hz hf => ?_, fun a σ H T hl hrt hS => ?_⟩
  · have iA := fun (x : Str) (c : Addr) (b : Bool) (g : B.mg x = some (.ref c)) (hg : Gl (B.X j) x) (hd' : (x == ("__debug__" : Str)) = false) (k : PySem.W.kitOne B.K (.ref Dc) (.ref c) = some b) (p p1 p2 pos : Pos) =>
      pe_isE (B := B) (i := i) (j := j) (p := p) (p1 := p1) (p2 := p2) (pos := pos) (pn := pn) (a := a) hX hz hf hm k (pe_glob (X := (B.X j).suite a ((a, oe) :: pn)) (v := .ref c) hg (by show (B.X j).mg x = _; rw [B.hmg]; exact g) rfl hd') (fun u r => r) hN (hv j) hd hcd (hgi j) (st1 j x p1 p2) (st2 j x p2) (st3 j x p2 pos)
    obtain ⟨sA, sB⟩ := st4 j _ _ ⟨p2, p3, p4, p5, rfl⟩ ⟨p6, p7, p8, p9, rfl⟩
    have e := B.hK j
    refine pss_cons (ps_set (X := (B.X j).suite a ((a, oe) :: pn)) (i := ik) (by show (B.X j).N.Nodup; rw [B.hN]; exact B.nd) (by show (B.X j).N[ik]? = _; rw [B.hN]; exact hNk) (.inl (hvk j)) (pe_lst (X := (B.X j).suite a ((a, oe) :: pn)) (pa_cons (iA xA cA false gA (hgA j) dA kA _ _ _ _) (pa_cons (iA xB cB false gB (hgB j) dB kB _ _ _ _) pa_nil sB) sA)) (sw j) (.inr (hvk j))) (pss_one (ps_ret ?_))
    refine pe_and (iA xC cC true gC (hgC j) dC kC _ _ _ _) (pe_and ?_ (pe_one (pe_cmpR (X := (B.X j).suite a ((a, oe) :: pn)) ?_ (pe_var (X := (B.X j).suite a ((a, oe) :: pn)) (by show (B.X j).N[ik]? = _; rw [B.hN]; exact hNk) (.inl (hvk j)) hdk hcdk) (pe_lst (pa_cons pe_bl (pa_cons pe_bl pa_nil (st5 j).2) (st5 j).1)) (nomark _))))
    · exact pe_isE (B := B) (i := i) (j := j) (pn := pn) (a := a) hX hz hf hm kV (pe_bltn (X := (B.X j).suite a ((a, oe) :: pn)) (v := .ty "ValueError") (hgV j) (by show (B.X j).mg _ = _; rw [B.hmg]; exact gV) (by decide +kernel) rfl) (fun u r => r) hN (hv j) hd hcd (hgi j) (st1 j _ _ _) (st2 j _ _) (st3 j _ _ _)
    · rw [← e]
      exact op_eq.or (op_eqD (X := (B.X j).suite a ((a, oe) :: pn)) (B.un j))
  · have hi : i < σ.length := by rw [hl]; exact (List.getElem?_eq_some_iff.mp hN).1
    have hik : ik < σ.length := by rw [hl]; exact (List.getElem?_eq_some_iff.mp hNk).1
    have g1 : (σ.set i (some (V.ref a)))[i]? = some (some (.ref a)) := List.getElem?_set_self hi
    have two : 2 ≤ sizeLine := by decide
    refine ⟨g1, g1, two, fun p hp => ?_⟩
    have g2 : ((σ.set i (some (V.ref a))).set ik (some (V.ref p)))[i]? = some (some (.ref a)) := by rw [List.getElem?_set_ne (Ne.symm hne)]; exact g1
    refine ⟨g2, true, rfl, ?_⟩
    rw [if_pos rfl]
    refine ⟨g2, true, rfl, ?_⟩
    rw [if_pos rfl]
    refine ⟨_, List.getElem?_set_self (by rw [List.length_set]; exact hik), two, fun p2 hp2 => ?_⟩
    have np : p ≠ p2 := fun z => by rw [z, upd_same] at hp2 <;> cases hp2
    refine .inr ⟨.list [.bool false, .bool false], .list [.bool false, .bool false], .lst (SqL.of (by rw [upd_ne np]; exact upd_same)) (.cons (.bl _) (.cons (.bl _) .nil)), .lst (SqL.of upd_same) (.cons (.bl _) (.cons (.bl _) .nil)), by decide +kernel, by decide +kernel, ?_⟩
    exact hrt _ _ ((upd_grow hp).trans (upd_grow hp2)) (.bl _)
end
theorem res0 {g : Nat} {x v : D} (h : (if g = 0 then some x else none) = some v) : g = 0 ∧ v = x := by
  by_cases e : g = 0
  · rw [if_pos e] at h; exact ⟨e, (Option.some.inj h).symm⟩
  · rw [if_neg e] at h; cases h
end DL

set_option linter.all false
set_option maxRecDepth 100000
namespace DL
open PySem PySem.Spec L2
set_option autoImplicit false
/-! ### how the data programs are read, a statement at a time -/
theorem seq_go {a b : DS} {D₁ : DEnds} {Γ : Ct} (h : ∀ nx : Ct → Prop, (∀ Γ', b D₁ Γ' → nx Γ') → a { D₁ with nx := nx } Γ) : wSeq a b D₁ Γ := h _ fun _ z => z
theorem ixD_nat (l : List D) (k : Nat) (P : D → Prop) : ixD l ((k : Nat) : Int) P = (match l[k]? with | some v => P v | none => False) := by
  unfold ixD
  cases e : l[k]? with
  | none =>
    have h : atI l ((k : Nat) : Int) = none := by
      unfold atI ixN
      have hk : l.length ≤ k := List.getElem?_eq_none_iff.mp e
      rw [if_pos (show (0 : Int) ≤ ((k : Nat) : Int) from Int.natCast_nonneg k), if_neg (show ¬ (((k : Nat) : Int) < (l.length : Nat)) by omega)]
      rfl
    rw [h]
  | some v =>
    have h : atI l ((k : Nat) : Int) = some v := atI_nat (j := k) e
    rw [h]
theorem ixD_0 (l : List D) (P : D → Prop) : ixD l 0 P = (match l[0]? with | some v => P v | none => False) := ixD_nat l 0 P
theorem ixD_1 (l : List D) (P : D → Prop) : ixD l 1 P = (match l[1]? with | some v => P v | none => False) := ixD_nat l 1 P
theorem ixD_2 (l : List D) (P : D → Prop) : ixD l 2 P = (match l[2]? with | some v => P v | none => False) := ixD_nat l 2 P
theorem ixD_3 (l : List D) (P : D → Prop) : ixD l 3 P = (match l[3]? with | some v => P v | none => False) := ixD_nat l 3 P
theorem ixD_4 (l : List D) (P : D → Prop) : ixD l 4 P = (match l[4]? with | some v => P v | none => False) := ixD_nat l 4 P
theorem ixD_5 (l : List D) (P : D → Prop) : ixD l 5 P = (match l[5]? with | some v => P v | none => False) := ixD_nat l 5 P
theorem ixD_6 (l : List D) (P : D → Prop) : ixD l 6 P = (match l[6]? with | some v => P v | none => False) := ixD_nat l 6 P
theorem ixD_7 (l : List D) (P : D → Prop) : ixD l 7 P = (match l[7]? with | some v => P v | none => False) := ixD_nat l 7 P
theorem ixD_8 (l : List D) (P : D → Prop) : ixD l 8 P = (match l[8]? with | some v => P v | none => False) := ixD_nat l 8 P
theorem ixD_9 (l : List D) (P : D → Prop) : ixD l 9 P = (match l[9]? with | some v => P v | none => False) := ixD_nat l 9 P
theorem ixD_10 (l : List D) (P : D → Prop) : ixD l 10 P = (match l[10]? with | some v => P v | none => False) := ixD_nat l 10 P
theorem ixD_11 (l : List D) (P : D → Prop) : ixD l 11 P = (match l[11]? with | some v => P v | none => False) := ixD_nat l 11 P
theorem ixD_12 (l : List D) (P : D → Prop) : ixD l 12 P = (match l[12]? with | some v => P v | none => False) := ixD_nat l 12 P
theorem ixD_13 (l : List D) (P : D → Prop) : ixD l 13 P = (match l[13]? with | some v => P v | none => False) := ixD_nat l 13 P
theorem ixD_14 (l : List D) (P : D → Prop) : ixD l 14 P = (match l[14]? with | some v => P v | none => False) := ixD_nat l 14 P
theorem ixD_15 (l : List D) (P : D → Prop) : ixD l 15 P = (match l[15]? with | some v => P v | none => False) := ixD_nat l 15 P
theorem ixD_16 (l : List D) (P : D → Prop) : ixD l 16 P = (match l[16]? with | some v => P v | none => False) := ixD_nat l 16 P
theorem ixD_17 (l : List D) (P : D → Prop) : ixD l 17 P = (match l[17]? with | some v => P v | none => False) := ixD_nat l 17 P
theorem ixD_18 (l : List D) (P : D → Prop) : ixD l 18 P = (match l[18]? with | some v => P v | none => False) := ixD_nat l 18 P
theorem ixD_19 (l : List D) (P : D → Prop) : ixD l 19 P = (match l[19]? with | some v => P v | none => False) := ixD_nat l 19 P
theorem ixD_at {l : List D} {k : Int} {P : D → Prop} (j : Nat) {v : D} (hk : k = (j : Int)) (hv : l[j]? = some v) (h : P v) : ixD l k P := by
  subst hk
  rw [ixD_nat, hv]
  exact h
theorem ixD_last (l : List D) (v : D) (P : D → Prop) : ixD (l ++ [v]) (-1) P = P v := by
  unfold ixD
  rw [atI_last]
theorem call_ok {Ex : Nat → Prop} {R : List D → Res → Prop} {ds : List D} {d : D} {P : D → Prop} (hR : R ds (.ok d)) (h : P d) : ∃ r, R ds r ∧ match r with
  | .ok d => P d
  | .err g => Ex g := ⟨.ok d, hR, h⟩
theorem line_le {n : Nat} (h : n ≤ 100000) : n ≤ sizeLine := Nat.le_trans h (by decide)
theorem line_lt {n : Nat} (h : n ≤ 100000) : n < sizeLine := Nat.lt_of_le_of_lt h (by decide)
theorem eq_bool (a b : Bool) : PyData.eqv (.bool a) (.bool b) = (a == b) := by rw [PyData.eqv]
theorem shaped_bool (a : Bool) : SeqAt.shaped (.bool a) = true := by cases a <;> decide +kernel
theorem shaped_int (a : Int) : SeqAt.shaped (.int a) = true := by
  unfold SeqAt.shaped PyData.canLay0 PyData.depth
  rfl
end DL
namespace DL
open PySem PySem.Spec L2
set_option autoImplicit false
theorem hide_none {H : Hp} : hide (fun _ => False) H = H := by
  funext b
  unfold hide
  rw [if_neg (fun z => z)]
def R_law : List Int → List D → D → Prop := fun ns ds d => ds = [] ∧ d = .bool true
theorem spS_law {K : PySem.W.Frag} (H : Hp) (a : Addr) (ns : List Int) (hS : SqL K H a (ns.map V.int)) : spS K R_law [.ref a] H (fun v _ => v = .bl true) fun _ _ _ => False :=
  ⟨a, ns, [], [], .bool true, fun _ => False, rfl, by rw [hide_none]; exact hS, .nil, fun _ z => z.elim, ⟨rfl, rfl⟩, fun v H' _ r => by cases r; rfl⟩
theorem cx_law {P : Program} {w : World} {outer : List Env} {H : Hp} {s : Shared} {e : Value} {s' : Shared} (h : L2.CX P w outer H s (fun _ _ _ => False) e s') : False := by
  obtain ⟨_, _, _, _, _, _, _, _, _, _, _, _, z⟩ := h
  exact z
theorem kit_own {K : PySem.W.Frag} {D₁ C : Addr} {b : Bool} (s : PySem.W.subIn K (.ref D₁) (.ref C) = some b) (r : PySem.W.subIn K (.ref C) (.ref C) = some true) (c : PySem.W.isClsIn K C = true) (t : PySem.W.typeIn K (.ref C) = some (.type "type")) : PySem.W.kitOne K (.ref D₁) (.ref C) = some b := by
  unfold PySem.W.kitOne
  by_cases h : (Value.ref D₁ == Value.ref C) = true
  · rw [if_pos h]
    have e : D₁ = C := by
      have := beq_iff_eq.mp h
      injection this
    subst e
    rw [r] at s
    exact s
  · rw [if_neg h]
    have e2 : ((PySem.W.clsIn K C).isSome && PySem.W.typeIn K (.ref C) == some (.type "type")) = true := by
      have c' : (PySem.W.clsIn K C).isSome = true := c
      rw [c', t] <;> rfl
    show (if ((PySem.W.clsIn K C).isSome && PySem.W.typeIn K (.ref C) == some (.type "type")) = true then PySem.W.subIn K (.ref D₁) (.ref C) else none) = some b
    rw [if_pos e2]
    exact s
theorem kit_val {K : PySem.W.Frag} {D₁ : Addr} (s : PySem.W.subIn K (.ref D₁) (.type "ValueError") = some true) : PySem.W.kitOne K (.ref D₁) (.type "ValueError") = some true := by
  unfold PySem.W.kitOne
  have h : (Value.ref D₁ == Value.type "ValueError") = false := rfl
  rw [h, if_neg Bool.false_ne_true]
  show (if PySem.W.kitMeta "ValueError" = true then PySem.W.subIn K (.ref D₁) (.type "ValueError") else none) = some true
  rw [if_pos (by decide +kernel)]
  exact s
/-- the classes of errors: Nought 0, NoRow 1, NoQuotient 2, PartError 3 -/
structure Xk (K : PySem.W.Frag) (mg : Str → Option Value) (cl : Nat → Addr) : Prop where
  g0 : mg "Nought" = some (.ref (cl 0))
  g1 : mg "NoRow" = some (.ref (cl 1))
  g2 : mg "NoQuotient" = some (.ref (cl 2))
  g3 : mg "PartError" = some (.ref (cl 3))
  gV : mg "ValueError" = none
  ex : ∀ g, g < 3 → ExcC K (cl g)
  m3 : ∀ g, g < 3 → PySem.W.exmOne K (.ref (cl g)) (.ref (cl 3)) = some true
  m0 : PySem.W.exmOne K (.ref (cl 0)) (.ref (cl 0)) = some true
  kit : ∀ g h, g < 3 → h < 3 → PySem.W.kitOne K (.ref (cl g)) (.ref (cl h)) = some (decide (g = h))
  kitV : ∀ g, g < 3 → PySem.W.kitOne K (.ref (cl g)) (.type "ValueError") = some true
end DL

set_option linter.all false
set_option autoImplicit false
namespace DL
open PySem PySem.Spec L2
/-- what `except Nought` of a law asks -/
structure Xk0 (K : PySem.W.Frag) (mg : Str → Option Value) (cl : Nat → Addr) : Prop where
  g0 : mg "Nought" = some (.ref (cl 0))
  m0 : PySem.W.exmOne K (.ref (cl 0)) (.ref (cl 0)) = some true
theorem Xk0.only {K : PySem.W.Frag} {mg : Str → Option Value} {cl : Nat → Addr} (X : Xk0 K mg cl) : ∀ g ∈ [0], PySem.W.exmOne K (.ref (cl g)) (.ref (cl 0)) = some true := fun g hg => by
  obtain rfl := List.mem_singleton.mp hg
  exact X.m0
end DL

set_option linter.all false
set_option autoImplicit false
namespace DL
open PySem PySem.Spec L2
/-! ### loops by what holds ahead of each turn -/
theorem for_inv {g : DG} {b : DS} {D₁ : DEnds} {ds : List D} (I : Nat → Ct → Prop)
    (h : ∀ (i : Nat) (d : D) (nx : Ct → Prop) (Γ : Ct), ds[i]? = some d → (∀ Γ', I (i + 1) Γ' → nx Γ') → I i Γ → g d Γ fun Γ' => b { D₁ with nx := nx, ct := nx, bk := D₁.nx } Γ')
    (he : ∀ Γ, I ds.length Γ → D₁.nx Γ) {Γ : Ct} (h0 : I 0 Γ) : wForL g b D₁ ds Γ := by
  suffices z : ∀ (r : List D) (k : Nat) (Γ : Ct), r = ds.drop k → k ≤ ds.length → I k Γ → wForL g b D₁ r Γ from z ds 0 Γ rfl (Nat.zero_le _) h0
  intro r
  induction r with
  | nil =>
    intro k Γ e hk q
    have := congrArg List.length e
    rw [List.length_drop] at this
    have e2 : k = ds.length := by
      have h3 : ([] : List D).length = 0 := rfl
      omega
    subst e2
    exact he Γ q
  | cons d r ih =>
    intro k Γ e hk q
    have hd : ds[k]? = some d := by
      have := congrArg (fun l => l[0]?) e
      simp only [List.getElem?_drop, Nat.add_zero, List.getElem?_cons_zero] at this
      exact this.symm
    have hk2 : k < ds.length := (List.getElem?_eq_some_iff.mp hd).1
    have hr : r = ds.drop (k + 1) := by
      have := congrArg List.tail e
      rw [List.tail_drop] at this
      exact this
    exact h k d _ Γ hd (fun Γ' q' => ih (k + 1) Γ' hr hk2 q') q
theorem wh_inv {t : DT} {b : DS} {D₁ : DEnds} (I : Nat → Ct → Prop)
    (h : ∀ (n : Nat) (nx : Ct → Prop) (Γ : Ct), (∀ m Γ', m < n → I m Γ' → nx Γ') → I n Γ → t Γ fun c => match c with
      | true => b { D₁ with nx := nx, ct := nx, bk := D₁.nx } Γ
      | false => D₁.nx Γ) {Γ : Ct} {n : Nat} (h0 : I n Γ) : wWhile t b D₁ Γ := by
  refine ⟨n + 1, ?_⟩
  suffices z : ∀ k m (Γ : Ct), m ≤ k → I m Γ → wWhN t b D₁ (k + 1) Γ from z n n Γ (Nat.le_refl _) h0
  intro k
  induction k with
  | zero =>
    intro m Γ hm q
    rw [wWhN]
    refine h m _ Γ (fun m' Γ' hm' _ => ?_) q
    omega
  | succ k ih =>
    intro m Γ hm q
    rw [wWhN]
    exact h m _ Γ (fun m' Γ' hm' q' => ih m' Γ' (by omega) q') q
theorem rngD_at {lo : Int} {n i : Nat} {d : D} (h : (rngD lo n)[i]? = some d) : i < n ∧ d = .int (lo + (i : Nat)) := rng_get h
theorem rngD_length (lo : Int) (n : Nat) : (rngD lo n).length = n := by unfold rngD; rw [List.length_map, List.length_range]
/-- a comprehension in which all are kept -/
theorem lc_map {Γ0 : Ct} {g : DG} {t : DT} {e : DE} {P : List D → Prop} (f : D → D) : ∀ (ds acc : List D), (∀ d ∈ ds, ∀ (Q : D → Prop) (R : Prop), Q (f d) → g d Γ0 fun Γ' => t Γ' fun c => match c with
      | true => e Γ' Q
      | false => R) → acc.length + ds.length ≤ sizeLine → P (acc ++ ds.map f) → wLc Γ0 g t e P ds acc
  | [], acc, _, _, h => by rw [List.map_nil, List.append_nil] at h; exact h
  | d :: r, acc, hd, hl, h => by
    rw [wLc]
    have hl2 : acc.length + r.length + 1 ≤ sizeLine := hl
    refine hd d (List.mem_cons_self ..) _ _ ⟨by omega, ?_⟩
    refine lc_map f r (acc ++ [f d]) (fun d' h' => hd d' (List.mem_cons_of_mem _ h')) (by rw [List.length_append]; show _ + 1 + _ ≤ _; omega) ?_
    rw [List.append_assoc]
    exact h
end DL

set_option Elab.async false
set_option linter.all false
set_option maxRecDepth 100000
set_option maxHeartbeats 4000000
set_option autoImplicit false
namespace DL
open PySem PySem.Spec L2 PyProof.Rows
/-! ### a tuple so many times, nought times and once too -/
theorem tmul_nought (l : Addr) (its : Array Value) (n : Nat) (dd : Option Addr) (sl : Array (Option Value)) (x : Int) (u : Tok) (hx : x = 0) (he : its.isEmpty = false) :
    Meets (Builtin.«tuple.__mul__» ⟨[.ref l, .int x u], []⟩) (fun _ R st => st.heap.get? l = some { cls := .type "tuple", dict := dd, data := .seq its n, slots := sl } ∧
      R (.ok (.ret (Value.ref st.heap.objs.size))) { st with heap := st.heap.push { cls := Value.type "tuple", data := Data.seq #[] }, toks := st.toks }) :=
  .of_wp fun _ _ _ _ st h => by
    subst hx
    obtain ⟨hp, g, d, tk, os⟩ := st
    obtain ⟨hl, h⟩ := h
    have fi := AutoSeq1.idx_int
    wp_walk using wpAny_loadPart' hl
    repeat (first
      | (refine wpAny_ite_false (by decide) ?_; wp_walk using wpAny_loadPart' hl)
      | (refine wpAny_ite_false (decide_eq_false (by rw [he]; decide)) ?_; wp_walk using wpAny_loadPart' hl)
      | (refine wpAny_ite_true (by rw [he]; decide) ?_; wp_walk using wpAny_loadPart' hl)
      | (refine wpAny_ite_true (by decide) ?_; wp_walk using wpAny_loadPart' hl))
    exact ⟨_, rfl, h⟩
theorem tmul_once (l : Addr) (its : Array Value) (n : Nat) (dd : Option Addr) (sl : Array (Option Value)) (x : Int) (u : Tok) (hx : x = 1) (he : its.isEmpty = false) :
    Meets (Builtin.«tuple.__mul__» ⟨[.ref l, .int x u], []⟩) (fun _ R st => st.heap.get? l = some { cls := .type "tuple", dict := dd, data := .seq its n, slots := sl } ∧
      R (.ok (.ret (Value.ref l))) st) :=
  .of_wp fun _ _ _ _ st h => by
    subst hx
    obtain ⟨hp, g, d, tk, os⟩ := st
    obtain ⟨hl, h⟩ := h
    have fi := AutoSeq1.idx_int
    wp_walk using wpAny_loadPart' hl
    repeat (first
      | (refine wpAny_ite_false (by decide) ?_; wp_walk using wpAny_loadPart' hl)
      | (refine wpAny_ite_true (by rw [he]; decide) ?_; wp_walk using wpAny_loadPart' hl)
      | (refine wpAny_ite_true (by decide) ?_; wp_walk using wpAny_loadPart' hl))
    exact ⟨_, rfl, h⟩
/-- tuple * int, from nought on -/
def rRepU (K : PySem.W.Frag) : R2 := fun x y H Q => ∃ l k xs, x = .ref l ∧ y = .int k ∧ SqT K H l xs ∧ xs ≠ [] ∧ 0 ≤ k ∧ k ≤ 1000 ∧ xs.length ≤ 1000 ∧ (k = 1 → Q (.ref l) H) ∧ (k ≠ 1 → ∀ p, H p = none → Q (.ref p) (upd H p (.tup (List.replicate k.toNat xs).flatten)))
theorem op_repU {X : Cx} : OpR X (binaryOp .Mult) (rRepU X.K) := by
  intro pins s σ H x y v u Q I rx ry h
  obtain ⟨l, k, xs, rfl, rfl, hT, hne, h0, h2, hz, q1, q2⟩ := h
  by_cases big : 2 ≤ k
  · exact op_repT pins s σ H _ _ v u Q I rx ry ⟨l, k, xs, rfl, rfl, hT, hne, big, h2, hz, q2 (by omega)⟩
  · cases rx
    obtain ⟨t, rfl⟩ := ry
    obtain ⟨its, r, ⟨⟨cls, dd, data, sl⟩, ho, hc, n, hd⟩, hs⟩ := I.tuple hT
    simp only at hc hd
    subst hc hd
    have hi : its.toArray.isEmpty = false := by
      cases its with
      | nil => cases r; exact absurd rfl hne
      | cons a b => rfl
    by_cases one : k = 1
    · refine wpAny_binaryOp_repeat_ref (T := "tuple") (U := "int") (by decide) ⟨_, ho, rfl⟩ (fun s' => typeIs_int s' k t) noFill_tuple_mul F.fills_int_mul F.slot_int_rmul repeat_tuple F.slot_int_index.lookup (call_meets F.slot_int_rmul (typeIs_int s k t) F.entry_int_rmul (F.args_int_rmul_2 _ _) (int_rmul_tuple k t l its.toArray n dd sl)
        ⟨ho, rfl, ⟨_, ho, rfl⟩, call_meets F.slot_tuple_mul ⟨_, ho, rfl⟩ F.entry_tuple_mul (F.args_tuple_mul_2 _ _) (tmul_once l its.toArray n dd sl k t one hi) ⟨ho, ?_⟩⟩)
      exact ⟨.ref l, H, I, rfl, q1 one⟩
    · have z : k = 0 := by omega
      refine wpAny_binaryOp_repeat_ref (T := "tuple") (U := "int") (by decide) ⟨_, ho, rfl⟩ (fun s' => typeIs_int s' k t) noFill_tuple_mul F.fills_int_mul F.slot_int_rmul repeat_tuple F.slot_int_index.lookup (call_meets F.slot_int_rmul (typeIs_int s k t) F.entry_int_rmul (F.args_int_rmul_2 _ _) (int_rmul_tuple k t l its.toArray n dd sl)
        ⟨ho, rfl, ⟨_, ho, rfl⟩, call_meets F.slot_tuple_mul ⟨_, ho, rfl⟩ F.entry_tuple_mul (F.args_tuple_mul_2 _ _) (tmul_nought l its.toArray n dd sl k t z hi) ⟨ho, ?_⟩⟩)
      have q := q2 one
      subst z
      have nil : ([] : List Value).length ≤ sizeLine := Nat.zero_le _
      refine ⟨.ref s.heap.objs.size, _, I.laid (t' := s.toks) (o := .tup []) (fun b ob q => Heap.get?_push_of_some _ q) (Nat.le_refl _) ?_, rfl, q _ (I.hok.fresh (Nat.le_refl _))⟩
      exact ⟨nil, [], .nil, IsTup.new _ _⟩
variable {B : Bd}
def dMulT : D2 := fun x y P => match x, y with
  | .tuple xs, .int k => (xs ≠ [] ∧ 0 ≤ k ∧ k ≤ 1000 ∧ xs.length ≤ 1000) ∧ P (.tuple (List.replicate k.toNat xs).flatten)
  | _, _ => False
theorem snd_mulT : SndR (B := B) (rRepU B.K) dMulT := fun Γ ad σ H x y d e P Q C rx ry h k => by
  unfold dMulT at h
  split at h
  · cases rx with
    | tup hx ax =>
      cases ry
      obtain ⟨⟨h1, h2, h3, h4⟩, q⟩ := h
      refine ⟨_, _, _, rfl, rfl, sqT_le hx, ?_, h2, h3, by rw [ax.length]; exact h4, fun one => ?_, fun _ p hp => ?_⟩
      · intro z
        subst z
        cases ax
        exact h1 rfl
      · subst one
        have q' : P (.tuple (List.replicate 1 _).flatten) := q
        rw [List.replicate_one, List.flatten_singleton] at q'
        exact k _ H _ (Same.refl H) (.tup hx ax) q'
      · exact k _ _ _ (upd_grow hp) (C.rp_tup hp (ax.rep _)) q
  · exact h.elim
theorem ee_mulT {a b : Expr} {wa wb : DE} {pos : Pos} (ha : EE B a wa) (hb : EE B b wb) : EE B (.BinOp a .Mult b pos) (eOp dMulT wa wb) :=
  ee_op (fun j => by have e := B.hK j; rw [← e]; exact op_repU) snd_mulT ha hb
/-! ### targets of several names -/
theorem lenT2 {i j : Nat} (ds : List D) (Γ : Ct) (P : Ct → Prop) (h : dCons (dName i) (dCons (dName j) dNil) ds Γ P) : ds.length = 2 := by
  rcases ds with _ | ⟨_, _ | ⟨_, _ | ⟨_, _⟩⟩⟩
  · exact h.elim
  · exact h.elim
  · rfl
  · exact h.elim
theorem lenT3 {i j k : Nat} (ds : List D) (Γ : Ct) (P : Ct → Prop) (h : dCons (dName i) (dCons (dName j) (dCons (dName k) dNil)) ds Γ P) : ds.length = 3 := by
  rcases ds with _ | ⟨_, _ | ⟨_, _ | ⟨_, _ | ⟨_, _⟩⟩⟩⟩
  · exact h.elim
  · exact h.elim
  · exact h.elim
  · rfl
  · exact h.elim
/-! ### the module's own tuples -/
theorem vals_two {i j : Int} {t u : Tok} : Vals [.int i, .int j] [.int i t, .int j u] := .cons ⟨_, rfl⟩ (.cons ⟨_, rfl⟩ .nil)
theorem vals_ref {b : Addr} : Vals [.ref b] [.ref b] := .cons rfl .nil
theorem size_two {x y : Value} : #[x, y].size ≤ sizeLine := Nat.le_of_ble_eq_true rfl
theorem size_one {x : Value} : #[x].size ≤ sizeLine := Nat.le_of_ble_eq_true rfl
theorem sqt_pair {K : PySem.W.Frag} {H : Hp} {a : Addr} {od : Option Addr} {i j : Int} {t u : Tok} {n : Nat} {sl : Array (Option Value)}
    (hl : K.lookup a = some ⟨.type "tuple", od, .seq #[.int i t, .int j u] n, sl⟩) : SqT K H a [.int i, .int j] := .inr ⟨_, _, _, hl, rfl, rfl, size_two, vals_two⟩
theorem sqt_ref {K : PySem.W.Frag} {H : Hp} {a b : Addr} {od : Option Addr} {n : Nat} {sl : Array (Option Value)}
    (hl : K.lookup a = some ⟨.type "tuple", od, .seq #[.ref b] n, sl⟩) : SqT K H a [.ref b] := .inr ⟨_, _, _, hl, rfl, rfl, size_one, vals_ref⟩
theorem rp_pair {K : PySem.W.Frag} {H : Hp} {a : Addr} {i j : Int} (h : SqT K H a [.int i, .int j]) : Rp K H (.ref a) (.tuple [.int i, .int j]) := .tup h (.cons (.int i) (.cons (.int j) .nil))
theorem glo_pair {K : PySem.W.Frag} {mg : Str → Option Value} {x : Str} {a : Addr} {od : Option Addr} {i j : Int} {t u : Tok} {n : Nat} {sl : Array (Option Value)} (hm : mg x = some (.ref a))
    (hl : K.lookup a = some ⟨.type "tuple", od, .seq #[.int i t, .int j u] n, sl⟩) : Glo K mg x (.tuple [.int i, .int j]) :=
  ⟨.ref a, .ref a, hm, rfl, fun _ => rp_pair (sqt_pair hl)⟩
theorem glo_one {K : PySem.W.Frag} {mg : Str → Option Value} {x : Str} {a b : Addr} {od od' : Option Addr} {i j : Int} {t u : Tok} {n n' : Nat} {sl sl' : Array (Option Value)} (hm : mg x = some (.ref a))
    (hl : K.lookup a = some ⟨.type "tuple", od, .seq #[.ref b] n, sl⟩) (hl' : K.lookup b = some ⟨.type "tuple", od', .seq #[.int i t, .int j u] n', sl'⟩) : Glo K mg x (.tuple [.tuple [.int i, .int j]]) :=
  ⟨.ref a, .ref a, hm, rfl, fun _ => .tup (sqt_ref hl) (.cons (rp_pair (sqt_pair hl')) .nil)⟩
def c_NONE : D := .tuple [.int 0, .int 1]
def c_MINUS : D := .tuple [.int (-1), .int 1]
def c_ONE : D := .tuple [.tuple [.int 1, .int 1]]
end DL

set_option Elab.async false
set_option linter.all false
set_option maxRecDepth 100000
set_option maxHeartbeats 4000000
set_option autoImplicit false
namespace DL
open PySem PySem.Spec L2 PyProof.Rows
/-! ### the end, where the base holds none who sees a division by great numbers -/
theorem hid_ns {h : Heap} {H : Hp} {b : Addr} {m : Str → Option Value} (no : ∀ o es ep, h.get? b = some o → o.data = .dict es ep → H b = none) (z : h.Ns b m) : (hidT h H).Ns b m := by
  obtain ⟨o, es, ep, e, d, r⟩ := z
  exact ⟨o, es, ep, hidT_get e (no o es ep e d), d, r⟩
theorem hid_seer {h : Heap} {H : Hp} (no : ∀ b o, h.get? b = some o → o.cls ≠ .type "list" → H b = none) (nd : ∀ b o es ep, h.get? b = some o → o.data = .dict es ep → H b = none) (z : h.NoSeer) : (hidT h H).NoSeer where
  statics := by
    obtain ⟨mc, a, r⟩ := z.statics
    exact ⟨mc, hid_ns (nd _) a, r⟩
  mods := by
    obtain ⟨mc, a, r⟩ := z.mods
    exact ⟨mc, hid_ns (nd _) a, r⟩
  imp := by
    obtain ⟨mc, a, r⟩ := z.imp
    exact ⟨mc, hid_ns (nd _) a, r⟩
  main := by
    obtain ⟨mc, bm, ob, a, e, g, c, d⟩ := z.main
    exact ⟨mc, bm, ob, hid_ns (nd _) a, e, hidT_get g (no bm ob g (by rw [c]; exact fun q => absurd q (by decide))), c, d⟩
theorem law_callP {P : Program} {w : World} {K : PySem.W.Frag} {mg mb : Str → Option Value} {CX : CXT} {k : Nat} {fa a : Addr} {fd : FuncData} {x : Str} {sp : Sp} {st : Shared} {vs : List Value} {ns : List Int}
    (hK : K.In st.heap) (gM : st.heap.Ns mainGlobals mg) (gB : st.heap.Ns builtinsNs mb) (hB : ∀ x : Str, x ≠ "__name__" → mb x = bootBuiltins x) (noL : st.heap.NoLimit) (noG : st.gens = #[]) (noS : st.heap.NoSeer)
    (hA : st.heap.get? a = some { cls := .type "list", data := .seq vs.toArray }) (hints0 : IntsAre vs ns) (few : ns.length ≤ sizeLine) (room : Room k callerA)
    (F : ∀ base : Heap, K.In base → base.Ns mainGlobals mg → base.NoSeer → FnOk P w K mg base CX k fa fd [x] sp) (binds : ∀ (s : Shared) (u : Value), BindsTo s fd ⟨[u], []⟩ [(x, u)])
    (start : ∀ H : Hp, Only H → SqL K H a (ns.map V.int) → sp [.ref a] H (fun v _ => v = .bl true) fun _ _ _ => False)
    (never : ∀ H e s', CX [] H st (fun _ _ _ => False) e s' → False) :
    codeAny (model P w) callerA (.call (.ref fa) ⟨[.ref a], []⟩) (fun r s' => r = .ok (.ret (.bool true)) ∧ OldK st.heap s'.heap ∧ s'.os = st.os ∧ AllBare s'.gens) st := by
  have paired := vals_ints hints0
  have same := hints0.length
  have go : ∀ H : Hp, Only H → SqL K H a (ns.map V.int) → HOk P w H st.heap → (∀ b, H b ≠ none → b = a) → (H a ≠ none → K.lookup a = none) →
      codeAny (model P w) callerA (.call (.ref fa) ⟨[.ref a], []⟩) (fun r s' => r = .ok (.ret (.bool true)) ∧ OldK st.heap s'.heap ∧ s'.os = st.os ∧ AllBare s'.gens) st := by
    intro H only sq ok one away
    have at_a : ∀ b, H b = none ∨ b = a := fun b => by
      rcases Classical.em (H b = none) with z | z
      · exact .inl z
      · exact .inr (one b z)
    have dicts : ∀ b o es ep, st.heap.get? b = some o → o.data = .dict es ep → H b = none := fun b o es ep e d => by
      rcases at_a b with z | rfl
      · exact z
      · rw [hA] at e
        cases e
        have d' : Data.seq vs.toArray _ = Data.dict es ep := d
        cases d'
    have others : ∀ b o, st.heap.get? b = some o → o.cls ≠ .type "list" → H b = none := fun b o e c => by
      rcases at_a b with z | rfl
      · exact z
      · rw [hA] at e
        cases e
        exact absurd rfl c
    have inBase : K.In (hidT st.heap H) := fun b o e => by
      rcases at_a b with z | rfl
      · exact hidT_get (hK b o e) z
      · rcases Classical.em (H b = none) with z | z
        · exact hidT_get (hK b o e) z
        · rw [away z] at e; cases e
    have mainB : (hidT st.heap H).Ns mainGlobals mg := hid_ns (dicts _) gM
    have modB : Mod K mg (hidT st.heap H) := ⟨inBase, mainB, ⟨mb, hid_ns (dicts _) gB, hB⟩, by
      obtain ⟨mc, l1, l2⟩ := noL
      exact ⟨mc, hid_ns (dicts _) l1, l2⟩⟩
    have envB : Env0 P w K mg (hidT st.heap H) callerA [] st H := ⟨rfl, modB, fun b o e => of_hidT e, Nat.le_of_eq (hidT_size _ _), trivial, (fun b hb => (nomatch hb)), ok, .of_eq noG⟩
    have fn := F _ inBase mainB (hid_seer others dicts noS)
    refine codeAny_mono (fn.run callerA [] st H ⟨[.ref a], []⟩ [.ref a] [.ref a] _ _ room envB (binds st (.ref a)) (.cons rfl .nil) (start H only sq)) fun r s' res => ?_
    cases r with
    | error e => exact (never H e s' res).elim
    | ok fl =>
      cases fl with
      | ret u =>
        obtain ⟨v, H', os, bare, un, ok', rv, q⟩ := res
        have q' : v = .bl true := q
        subst q'
        obtain rfl : u = Value.bool true := rv
        refine ⟨rfl, OldK.of_keep fun b o e => ?_, os, bare⟩
        rcases only b with z | ⟨ob, xs, z⟩
        · exact un.keep b o e z (fun y => nomatch y) (fun y => nomatch y)
        · obtain ⟨e1, _⟩ := ok b _ z
          obtain ⟨e2, _⟩ := ok' b _ (un.frzs b ob _ z)
          rw [e] at e1
          cases e1
          exact e2
      | _ => exact False.elim res
  cases kin : K.lookup a with
  | some o =>
    have e := hK a o kin
    rw [hA] at e
    cases e
    exact go (fun _ => none) (fun _ => .inl rfl) (.inr ⟨_, vs.toArray, _, kin, rfl, rfl, rfl, by rw [List.size_toArray, same]; exact few, by simpa using paired⟩) (fun b u z => by have z' : (none : Option HO) = some u := z; cases z') (fun b z => absurd rfl z) fun z => absurd rfl z
  | none =>
    have pick : ∀ b, (if b = a then some (HO.frz { cls := .type "list", data := .seq vs.toArray } (.lst (ns.map V.int))) else none) ≠ none → b = a := fun b z => by
      rcases Classical.em (b = a) with e | e
      · exact e
      · exact absurd (if_neg e) z
    refine go (fun b => if b = a then some (.frz { cls := .type "list", data := .seq vs.toArray } (.lst (ns.map V.int))) else none) (fun b => ?_) (.inl (.inr ⟨_, if_pos rfl⟩)) (fun b u z => ?_) pick fun _ => kin
    · rcases Classical.em (b = a) with e | e
      · exact .inr ⟨_, _, if_pos e⟩
      · exact .inl (if_neg e)
    · have e : b = a := pick b (fun y => by have y2 := z.symm.trans y; cases y2)
      have y := (if_pos e).symm.trans z
      cases y
      subst e
      exact ⟨hA, by rw [List.length_map]; exact few, vs, _, paired, hA⟩
theorem walk_ofP {l : PySem.W.OpenLaw} {n k : Nat} {q : Program} {loose : List Str} {XP : (Str → Option Value) → Heap → Prop} {YP : World → Heap → Prop} {d : DefRec} {K : Params → PySem.W.Frag} {CX : World → CXT} {sp : World → Sp} {x : Str}
    (most : l.most = some n) (line : n ≤ sizeLine) (plain : d.params.defaults = []) (imps : importsNone q = true) (room : Room k callerA)
    (inK : ∀ (w : World) (h : Heap), YP w h → (K w.params).In h)
    (F : ∀ (w : World) (mg : Str → Option Value) (fa : Addr) (h : Heap), (K w.params).In h → h.Ns mainGlobals mg → mg d.name = some (.ref fa) →
      ∃ fd : FuncData, (∀ (s : Shared) (u : Value), BindsTo s fd ⟨[u], []⟩ [(x, u)]) ∧
        ∀ base : Heap, (K w.params).In base → base.Ns mainGlobals mg → base.NoSeer → FnOk l.prog w (K w.params) mg base (CX w) k fa fd [x] (sp w))
    (start : ∀ (w : World) (H : Hp) (a : Addr) (ns : List Int), ns.length ≤ n → Only H → SqL (K w.params) H a (ns.map V.int) → sp w [.ref a] H (fun v _ => v = .bl true) fun _ _ _ => False)
    (never : ∀ (w : World) (H : Hp) (s : Shared) (e : Value) (s' : Shared), CX w [] H s (fun _ _ _ => False) e s' → False) :
    PySem.W.WalkO q loose XP YP l.row.toRowW d [] (fun f vs => PySem.call f vs) :=
  Att.attach_call most plain fun w s₀ st mg mb fa o pm cd doc a vs ns G Y ho hd hcd hmg hobj hints hlen hg => by
    have hK := inK w _ Y
    obtain ⟨fd, hb, hF⟩ := F w mg fa _ hK G.T.g hmg
    exact law_callP hK G.T.g G.T.b G.T.builtins G.T.nolimit hg (G.T.seer imps) hobj hints (Nat.le_trans hlen line) room hF hb (fun H hO hS => start w H a ns hlen hO hS) fun H e s' => never w H st e s'
end DL

set_option linter.all false
set_option autoImplicit false
namespace DL
open PySem PySem.Spec L2
def frD (q : Rat) : D := .tuple [.int q.num, .int (q.den : Int)]
def R_divisor (py : Prop) : List D → Res → Prop := fun ds r => ∃ a b : Int, ds = [.int a, .int b] ∧ 0 ≤ a ∧ 0 < b ∧ r = .ok (.int (Int.gcd a b))
def R_fraction (py : Prop) : List D → Res → Prop := fun ds r => ∃ a b : Int, ds = [.int a, .int b] ∧ (b.natAbs.log2 < 9000 ∨ py) ∧ r = if b = 0 then .err 0 else .ok (frD (Rat.divInt a b))
def isInt : D → Bool
  | .int _ => true
  | _ => false
def isFr : D → Bool
  | .tuple [.int a, .int b] => decide (0 < b ∧ Int.gcd a b = 1)
  | _ => false
def R_is_whole (py : Prop) : List D → Res → Prop := fun ds r => ∃ d, ds = [d] ∧ r = .ok (.bool (isInt d))
def R_is_fraction (py : Prop) : List D → Res → Prop := fun ds r => ∃ d, ds = [d] ∧ r = .ok (.bool (isFr d))
def w_divisor (Ex : Nat → Prop) (py : Prop) : DS :=
  (wSeq (wWhile (tBl (eOp dGt (eVar 0) (eC (.int 0))))
  (wPar 0 1 (aCons (eOp dMod (eVar 1) (eVar 0)) (aCons (eVar 0) aNil))))
  (wRet (eVar 1)))

def w_fraction (Ex : Nat → Prop) (py : Prop) : DS :=
  (wSeq (wIf (tBl (eOp dEq (eVar 1) (eC (.int 0))))
  (wRaise Ex 0)
  wNext)
  (wSeq (wIf (tBl (eOp dLt (eVar 1) (eC (.int 0))))
  (wSeq (wSet 0 (eNeg (eVar 0)))
  (wSet 1 (eNeg (eVar 1))))
  wNext)
  (wSeq (wSet 2 (eCall Ex (R_divisor py) (aCons (eCB cAbs (aCons (eVar 0) aNil)) (aCons (eVar 1) aNil))))
  (wRet (eTup (aCons (eOp (dFdiv py) (eVar 0) (eVar 2)) (aCons (eOp (dFdiv py) (eVar 1) (eVar 2)) aNil)))))))

def w_is_whole (Ex : Nat → Prop) (py : Prop) : DS :=
  (wRet (eAnd (eIsi .int (eVar 0)) (eNot (eIsi .bool (eVar 0)))))

def w_is_fraction (Ex : Nat → Prop) (py : Prop) : DS :=
  (wSeq (wIf (tOrD (tNotD (tBl (eIsi .tuple (eVar 0)))) (tOrD (tBl (eOp dNe (eCB cLen (aCons (eVar 0) aNil)) (eC (.int 2)))) (tOrD (tNotD (tBl (eCall Ex (R_is_whole py) (aCons (eOp dIx (eVar 0) (eC (.int 0))) aNil)))) (tNotD (tBl (eCall Ex (R_is_whole py) (aCons (eOp dIx (eVar 0) (eC (.int 1))) aNil)))))))
  (wRet (eC (.bool false)))
  wNext)
  (wRet (eAnd (eOp dGt (eOp dIx (eVar 0) (eC (.int 1))) (eC (.int 0))) (eOp dEq (eCall Ex (R_divisor py) (aCons (eCB cAbs (aCons (eOp dIx (eVar 0) (eC (.int 0))) aNil)) (aCons (eOp dIx (eVar 0) (eC (.int 1))) aNil))) (eC (.int 1))))))

abbrev endsOf (r : Res) : DEnds := { nx := fun _ => r = .ok .none, rt := fun d => r = .ok d }
local macro_rules | `(tactic| walk_at "dl") => `(tactic| simp -implicitDefEqProofs only [wSeq, wNext, wSet, wSetL, wAsg, wPar, parD, wRet, wExpr, wApp, wSetIx, wIf, wFrz, wRaise, wBreak, wCont, eVar, eC, eOp, tBl, dI, dB, dAdd, dSub, dMul, dFdiv, dMod, dPow, eNeg, dLt, dLe, dGt, dGe, dEq, dNe, dIs, dIsNot, eAnd, eOr, eNot, tAndD, tOrD, tNotD,
  aNil, aCons, eTup, eLst, lLst, eL, dIx, ixD, eSl, dSl, oNo, oSome, eCB, cLen, cAbs, cMax, cMin, cTuple, cList, cInt, eIsi, isiD, dName, dTupT, dCons, dNil, startΓ, List.getElem?_cons_zero, List.getElem?_cons_succ, List.set, List.map, List.length, List.replicate, List.append, List.cons_append, List.nil_append, Nat.sub_self, Nat.reduceAdd, Nat.reduceSub])
theorem pure_is_whole (py : Prop) (ds : List D) (r : Res) (h : R_is_whole py ds r) : w_is_whole (fun g => r = .err g) py (endsOf r) (startΓ ["thing"] ds) := by
  obtain ⟨d, rfl, rfl⟩ := h
  cases d <;> rfl
theorem gcd_step {a b : Int} (ha : 0 ≤ a) (hb : 0 ≤ b) : Int.gcd (b % a) a = Int.gcd a b := by
  obtain ⟨m, rfl⟩ := Int.eq_ofNat_of_zero_le ha
  obtain ⟨n, rfl⟩ := Int.eq_ofNat_of_zero_le hb
  show Nat.gcd _ _ = Nat.gcd _ _
  rw [← Int.natCast_emod, Int.natAbs_natCast, Int.natAbs_natCast, Int.natAbs_natCast]
  exact (Nat.gcd_rec m n).symm
theorem gcd_abs (a b : Int) : Int.gcd (if a < 0 then -a else a) b = Int.gcd a b := by
  split
  · exact Int.neg_gcd
  · rfl
theorem frac_pos (a b : Int) (hb : 0 < b) : frD (Rat.divInt a b) = .tuple [.int (a / (Int.gcd a b : Int)), .int (b / (Int.gcd a b : Int))] := by
  unfold frD
  rw [Rat.num_divInt, Rat.den_divInt, if_neg (by omega), Int.sign_eq_one_of_pos hb, Int.one_mul, Int.gcd_comm b a, Int.natCast_ediv, Int.natAbs_of_nonneg (by omega)]
theorem divInt_neg (a b : Int) : Rat.divInt (-a) (-b) = Rat.divInt a b := Rat.neg_divInt_neg a b
theorem gcd_log {a b : Int} {n : Nat} (hb : b ≠ 0) (h : b.natAbs.log2 < n) : (Int.gcd a b : Int).natAbs.log2 < n := by
  rw [Int.natAbs_natCast]
  have h1 := Int.gcd_le_natAbs_right a hb
  have h2 : b.natAbs ≠ 0 := by omega
  have h3 : Int.gcd a b ≠ 0 := by
    intro z
    have := Int.gcd_eq_zero_iff.mp z
    exact hb this.2
  have h4 := (Nat.log2_lt h2).mp h
  exact (Nat.log2_lt h3).mpr (Nat.lt_of_le_of_lt h1 h4)
theorem while_divisor (D₁ : DEnds) : ∀ (n : Nat) (a b : Int), 0 ≤ a → 0 < b → a.toNat < n → D₁.nx [.im (.int 0), .im (.int (Int.gcd a b))] →
    wWhN (tBl (eOp dGt (eVar 0) (eC (.int 0)))) (wPar 0 1 (aCons (eOp dMod (eVar 1) (eVar 0)) (aCons (eVar 0) aNil))) D₁ n [.im (.int a), .im (.int b)]
  | 0, _, _, _, _, h, _ => absurd h (Nat.not_lt_zero _)
  | n + 1, a, b, ha, hb, hn, h => by
    rw [wWhN]
    walk_at "dl"
    by_cases h0 : 0 < a
    · rw [decide_eq_true h0]
      have h1 := Int.emod_nonneg b (show a ≠ 0 by omega)
      have h2 := Int.emod_lt_of_pos b h0
      refine ⟨h0, while_divisor _ n (b % a) a h1 h0 (by omega) ?_⟩
      have e : Int.gcd (b % a) a = Int.gcd a b := gcd_step ha (by omega)
      rw [e]; exact h
    · rw [decide_eq_false h0]
      obtain rfl : a = 0 := by omega
      rw [Int.gcd_zero_left, Int.natAbs_of_nonneg (by omega)] at h
      exact h
theorem pure_divisor (py : Prop) (ds : List D) (r : Res) (h : R_divisor py ds r) : w_divisor (fun g => r = .err g) py (endsOf r) (startΓ ["one", "other"] ds) := by
  obtain ⟨a, b, rfl, ha, hb, rfl⟩ := h
  exact ⟨a.toNat + 1, while_divisor _ _ a b ha hb (by omega) rfl⟩
theorem pure_fraction (py : Prop) (ds : List D) (r : Res) (h : R_fraction py ds r) : w_fraction (fun g => r = .err g) py (endsOf r) (startΓ ["top", "bottom", "by"] ds) := by
  obtain ⟨a, b, rfl, hp, rfl⟩ := h
  unfold w_fraction
  walk_at "dl"
  by_cases hb : b = 0
  · rw [decide_eq_true hb, if_pos hb]
  · rw [decide_eq_false hb, if_neg hb]
    have key : ∀ a' b' : Int, 0 < b' → Rat.divInt a' b' = Rat.divInt a b → b'.natAbs = b.natAbs → (eCall (fun g => Res.ok (frD (Rat.divInt a b)) = Res.err g) (R_divisor py) (aCons (eCB cAbs (aCons (eVar 0) aNil)) (aCons (eVar 1) aNil)) [.im (.int a'), .im (.int b'), .no] fun d =>
        match PyData.int a', d with
        | PyData.int i, PyData.int j => (0 < j ∧ (j.natAbs.log2 < 9000 ∨ py)) ∧ match PyData.int b', d with
            | PyData.int i_1, PyData.int j_1 => (0 < j_1 ∧ (j_1.natAbs.log2 < 9000 ∨ py)) ∧ Res.ok (frD (Rat.divInt a b)) = Res.ok (PyData.tuple [PyData.int (i / j), PyData.int (i_1 / j_1)])
            | x, x_1 => False
        | x, x_1 => False) := fun a' b' h0 e e2 => by
      have hg : 0 < (Int.gcd a' b' : Int) := by
        have : Int.gcd a' b' ≠ 0 := fun z => by
          have := Int.gcd_eq_zero_iff.mp z
          omega
        omega
      have hl : (Int.gcd a' b' : Int).natAbs.log2 < 9000 ∨ py := hp.imp (fun z => gcd_log (by omega) (by rw [e2]; exact z)) id
      refine ⟨_, ⟨_, _, rfl, by split <;> omega, h0, rfl⟩, ?_⟩
      rw [gcd_abs]
      exact ⟨⟨hg, hl⟩, ⟨hg, hl⟩, by rw [← e, frac_pos a' b' h0]⟩
    by_cases h0 : b < 0
    · rw [decide_eq_true h0]
      exact key (-a) (-b) (by omega) (divInt_neg a b) (by omega)
    · rw [decide_eq_false h0]
      exact key a b (by omega) rfl rfl
theorem pure_is_fraction (py : Prop) (ds : List D) (r : Res) (h : R_is_fraction py ds r) : w_is_fraction (fun g => r = .err g) py (endsOf r) (startΓ ["thing"] ds) := by
  obtain ⟨d, rfl, rfl⟩ := h
  unfold w_is_fraction
  cases d with
  | tuple xs =>
    have at0 : ∀ (x : D) (l : List D), atI (x :: l) 0 = some x := fun x l => atI_nat (j := 0) rfl
    have at1 : ∀ (x y : D) (l : List D), atI (x :: y :: l) 1 = some y := fun x y l => atI_nat (j := 1) rfl
    rcases xs with _ | ⟨x, _ | ⟨y, _ | ⟨z, l⟩⟩⟩
    · rfl
    · cases x <;> rfl
    · walk_at "dl"
      simp only [show ((0 + 1 + 1 : Nat) : Int) = 2 from rfl, decide_true, Bool.not_true, at0, at1]
      refine ⟨_, ⟨_, rfl, rfl⟩, ?_⟩
      cases x with
      | int a =>
        refine ⟨_, ⟨_, rfl, rfl⟩, ?_⟩
        cases y with
        | int b =>
          dsimp only [isInt, Bool.not_true]
          by_cases hb : 0 < b
          · rw [decide_eq_true hb]
            refine ⟨_, ⟨_, _, rfl, by split <;> omega, hb, rfl⟩, ?_⟩
            rw [gcd_abs]
            show Res.ok (PyData.bool (decide (0 < b ∧ Int.gcd a b = 1))) = Res.ok (PyData.bool (decide ((Int.gcd a b : Int) = 1)))
            have e : (0 < b ∧ Int.gcd a b = 1) ↔ ((Int.gcd a b : Int) = 1) := by omega
            rw [decide_eq_decide.mpr e]
          · rw [decide_eq_false hb]
            show Res.ok (PyData.bool (decide (0 < b ∧ Int.gcd a b = 1))) = Res.ok (PyData.bool false)
            rw [decide_eq_false (fun z => hb z.1)]
        | _ => rfl
      | _ => rfl
    · walk_at "dl"
      have e : decide (((l.length + 1 + 1 + 1 : Nat) : Int) = 2) = false := decide_eq_false (by omega)
      simp only [e, Bool.not_false, Bool.not_true]
      have e2 : isFr (.tuple (x :: y :: z :: l)) = false := by cases x <;> first | rfl | (cases y <;> rfl)
      show Res.ok _ = Res.ok _
      rw [e2]
  | _ => rfl
end DL

set_option linter.all false
set_option autoImplicit false
set_option maxRecDepth 10000
set_option maxHeartbeats 400000
namespace DL
open PySem PySem.Spec L2
local macro_rules | `(tactic| walk_at "dl") => `(tactic| simp -implicitDefEqProofs only [wSeq, wNext, wSet, wSetL, wAsg, wPar, parD, wRet, wExpr, wApp, wSetIx, wIf, wFrz, wRaise, wBreak, wCont, eVar, eC, eOp, tBl, dI, dB, dAdd, dSub, dMul, dFdiv, dMod, dPow, eNeg, dLt, dLe, dGt, dGe, dEq, dNe, dIs, dIsNot, eAnd, eOr, eNot, tAndD, tOrD, tNotD,
  aNil, aCons, eTup, eLst, lLst, eL, dIx, eSl, dSl, oNo, oSome, eCB, cLen, cAbs, cMax, cMin, cTuple, cList, cInt, eIsi, isiD, dName, dTupT, dCons, dNil, eCell, cellP, eCall, startΓ, startS, List.getElem?_cons_zero, List.getElem?_cons_succ, List.set, List.map, List.length, List.replicate, List.append, List.cons_append, List.nil_append, Nat.sub_self, Nat.reduceAdd, Nat.reduceSub, true_and, ixD_0, ixD_1, ixD_2, ixD_3, ixD_4, ixD_5, ixD_6, ixD_7, ixD_8, ixD_9, ixD_10, ixD_11, ixD_12, ixD_13, ixD_14, ixD_15, ixD_16, ixD_17, ixD_18, ixD_19])
/-! ### the stream of numbers -/
def stepS (n : Int) (k : Int) : Int := (n * n + 48271 * n + k) % 2147483647
def strm (n : Int) (s : Nat) : Nat → List Int
  | 0 => []
  | m + 1 => stepS n s :: strm (stepS n s) (s + 1) m
def stream (c : Int) (m : Nat) : List Int := (strm (c % 2147483647 + 48271) 0 (m + 1)).drop 1
def intsD (ns : List Int) : D := .list (ns.map .int)
theorem strm_len (n : Int) (s m : Nat) : (strm n s m).length = m := by
  induction m generalizing n s with
  | zero => rfl
  | succ m ih => show (strm _ _ m).length + 1 = _; rw [ih]
theorem stepS_lt (n k : Int) : 0 ≤ stepS n k ∧ stepS n k < 2147483647 := ⟨Int.emod_nonneg _ (by decide), Int.emod_lt_of_pos _ (by decide)⟩
theorem strm_mem (n : Int) (s m : Nat) : ∀ x ∈ strm n s m, 0 ≤ x ∧ x < 2147483647 := by
  induction m generalizing n s with
  | zero => intro x h; cases h
  | succ m ih =>
    intro x h
    rcases List.mem_cons.mp h with rfl | h
    · exact stepS_lt _ _
    · exact ih _ _ x h
theorem stream_len (c : Int) (m : Nat) : (stream c m).length = m := by
  unfold stream
  rw [List.length_drop, strm_len]
  rfl
theorem stream_mem {c : Int} {m : Nat} : ∀ x ∈ stream c m, 0 ≤ x ∧ x < 2147483647 := fun x h => strm_mem _ _ _ x (List.mem_of_mem_drop h)
def R__law_stream (py : Prop) : List D → Res → Prop := fun ds r => ∃ (c : Int) (m : Nat), ds = [.int c, .int m] ∧ m ≤ 1000 ∧ r = .ok (intsD (stream c m))
def w__law_stream (Ex : Nat → Prop) (py : Prop) : DS :=
  (wSeq (wSetL 2 (lLst aNil))
  (wSeq (wSet 3 (eOp dAdd (eOp dMod (eVar 0) (eC (.int 2147483647))) (eC (.int 48271))))
  (wSeq (wFor (iR1 (aCons (eOp dAdd (eVar 1) (eC (.int 1))) aNil)) (dName 4)
  (wSeq (wSet 3 (eOp dMod (eOp dAdd (eOp dAdd (eOp dMul (eVar 3) (eVar 3)) (eOp dMul (eC (.int 48271)) (eVar 3))) (eVar 4)) (eC (.int 2147483647))))
  (wApp 2 (eVar 3))))
  (wFrz 2 (wRet (eSl (eVar 2) (oSome (eC (.int 1))) oNo))))))

theorem rngD_range' (lo : Int) (n : Nat) : rngD lo n = (List.range' 0 n).map fun i => PyData.int (lo + (i : Nat)) := by
  unfold rngD
  rw [List.range_eq_range']
theorem line1000 {n : Nat} (h : n ≤ 100000) : n < sizeLine := Nat.lt_of_le_of_lt h (by decide)
theorem mulx_of {i j : Int} {a b : Nat} (ha : i.natAbs < 2 ^ a) (hb : j.natAbs < 2 ^ b) (h : a + b ≤ 134217728) : CMulX i j := mulx_ok ha hb h
theorem inR_of {j : Int} (h : 0 ≤ j) (h2 : j ≤ 4000000000) : inR j := ⟨by omega, by omega⟩
theorem cutD_from1 (ds : List D) (h : 1 ≤ ds.length) : cutD ds (some 1) none = ds.drop 1 := by
  unfold cutD
  have e1 : HT.sIx ds.length 0 (some ((1 : Nat) : Int)) = min 1 ds.length := HT.sIx_nat _ _ _
  have e2 : HT.sIx ds.length ds.length none = ds.length := HT.sIx_none _ _
  rw [show (1 : Int) = ((1 : Nat) : Int) from rfl, e1, e2, Nat.min_eq_left h]
  exact List.take_of_length_le (by rw [List.length_drop]; exact Nat.le_refl _)
theorem for_stream (D₁ : DEnds) (c m : D) : ∀ (n s : Nat) (x : Int) (acc : List Int) (e : En), 0 ≤ x → x < 2147531918 → s + n ≤ 2000 → acc.length + n ≤ 2000 → (∀ y e', D₁.nx [.im c, .im m, .own ((acc ++ strm x s n).map PyData.int), .im (.int y), e']) →
    wForL (dName 4) (wSeq (wSet 3 (eOp dMod (eOp dAdd (eOp dAdd (eOp dMul (eVar 3) (eVar 3)) (eOp dMul (eC (.int 48271)) (eVar 3))) (eVar 4)) (eC (.int 2147483647)))) (wApp 2 (eVar 3))) D₁ ((List.range' s n).map fun i => PyData.int (0 + (i : Nat))) [.im c, .im m, .own (acc.map PyData.int), .im (.int x), e]
  | 0, s, x, acc, e, _, _, _, _, h => by
    have := h x e
    rw [show strm x s 0 = [] from rfl, List.append_nil] at this
    exact this
  | n + 1, s, x, acc, e, h0, h1, hs, ha, h => by
    rw [List.range'_succ, List.map_cons, wForL]
    walk_at "dl"
    have b1 : x.natAbs < 2 ^ 32 := by omega
    have hst := stepS_lt x s
    refine ⟨mulx_of b1 b1 (by decide), mulx_of (a := 32) (by decide) b1 (by decide), by decide, line1000 (by rw [List.length_map]; omega), ?_⟩
    have e1 : (acc.map PyData.int ++ [PyData.int ((x * x + 48271 * x + (0 + (s : Int))) % 2147483647)]) = (acc ++ [stepS x s]).map PyData.int := by
      rw [List.map_append, Int.zero_add]; rfl
    rw [e1, Int.zero_add]
    refine for_stream D₁ c m n (s + 1) (stepS x s) (acc ++ [stepS x s]) _ hst.1 (by omega) (by omega) (by rw [List.length_append]; show _ + 1 + n ≤ _; omega) fun y e' => ?_
    have := h y e'
    rw [show strm x s (n + 1) = stepS x s :: strm (stepS x s) (s + 1) n from rfl] at this
    rw [List.append_assoc]
    exact this
theorem pure__law_stream (py : Prop) (ds : List D) (r : Res) (h : R__law_stream py ds r) : w__law_stream (fun g => r = .err g) py (endsOf r) (startΓ ["_law_cell", "_law_many", "_law_found", "_law_number", "_law_k"] ds) := by
  obtain ⟨c, m, rfl, hm, rfl⟩ := h
  unfold w__law_stream
  walk_at "dl"
  have h1 := Int.emod_nonneg c (show (2147483647 : Int) ≠ 0 by decide)
  have h2 := Int.emod_lt_of_pos c (show (0 : Int) < 2147483647 by decide)
  refine ⟨by decide, inR_of (by omega) (by omega), ?_⟩
  rw [rngD_range', show ((m : Int) + 1).toNat = m + 1 by omega]
  refine for_stream _ _ _ (m + 1) 0 _ [] _ (by omega) (by omega) (by omega) (by show 0 + (m + 1) ≤ _; omega) fun y e' => ?_
  have len : (strm (c % 2147483647 + 48271) 0 (m + 1)).length = m + 1 := strm_len _ _ _
  show Res.ok _ = Res.ok (PyData.list (cutD _ (some 1) none))
  rw [List.nil_append, cutD_from1 _ (by rw [List.length_map, len]; omega)]
  show _ = Res.ok (PyData.list (List.drop 1 _))
  rw [← List.map_drop]
  rfl
/-! ### the law's own fractions: the program's words again -/
abbrev R__law_divisor := R_divisor
abbrev R__law_whole := R_is_whole
abbrev R__law_is_fraction := R_is_fraction
def R__law_fraction (py : Prop) : List D → Res → Prop := fun ds r => ∃ a b : Int, ds = [.int a, .int b] ∧ (b.natAbs.log2 < 9000 ∨ py) ∧ b ≠ 0 ∧ r = .ok (frD (Rat.divInt a b))
def w__law_whole (Ex : Nat → Prop) (py : Prop) : DS :=
  (wRet (eAnd (eIsi .int (eVar 0)) (eNot (eIsi .bool (eVar 0)))))

def w__law_divisor (Ex : Nat → Prop) (py : Prop) : DS :=
  (wSeq (wWhile (tBl (eOp dGt (eVar 0) (eC (.int 0))))
  (wPar 0 1 (aCons (eOp dMod (eVar 1) (eVar 0)) (aCons (eVar 0) aNil))))
  (wRet (eVar 1)))

def w__law_fraction (Ex : Nat → Prop) (py : Prop) : DS :=
  (wSeq (wIf (tBl (eOp dLt (eVar 1) (eC (.int 0))))
  (wSeq (wSet 0 (eNeg (eVar 0)))
  (wSet 1 (eNeg (eVar 1))))
  wNext)
  (wSeq (wSet 2 (eCall Ex (R__law_divisor py) (aCons (eCB cAbs (aCons (eVar 0) aNil)) (aCons (eVar 1) aNil))))
  (wRet (eTup (aCons (eOp (dFdiv py) (eVar 0) (eVar 2)) (aCons (eOp (dFdiv py) (eVar 1) (eVar 2)) aNil))))))

def w__law_is_fraction (Ex : Nat → Prop) (py : Prop) : DS :=
  (wSeq (wIf (tOrD (tNotD (tBl (eIsi .tuple (eVar 0)))) (tOrD (tBl (eOp dNe (eCB cLen (aCons (eVar 0) aNil)) (eC (.int 2)))) (tOrD (tNotD (tBl (eCall Ex (R__law_whole py) (aCons (eOp dIx (eVar 0) (eC (.int 0))) aNil)))) (tNotD (tBl (eCall Ex (R__law_whole py) (aCons (eOp dIx (eVar 0) (eC (.int 1))) aNil)))))))
  (wRet (eC (.bool false)))
  wNext)
  (wRet (eAnd (eOp dGt (eOp dIx (eVar 0) (eC (.int 1))) (eC (.int 0))) (eOp dEq (eCall Ex (R__law_divisor py) (aCons (eCB cAbs (aCons (eOp dIx (eVar 0) (eC (.int 0))) aNil)) (aCons (eOp dIx (eVar 0) (eC (.int 1))) aNil))) (eC (.int 1))))))

theorem pure__law_divisor (py : Prop) (ds : List D) (r : Res) (h : R__law_divisor py ds r) : w__law_divisor (fun g => r = .err g) py (endsOf r) (startΓ ["_law_one", "_law_other"] ds) := pure_divisor py ds r h
theorem pure__law_whole (py : Prop) (ds : List D) (r : Res) (h : R__law_whole py ds r) : w__law_whole (fun g => r = .err g) py (endsOf r) (startΓ ["_law_found"] ds) := pure_is_whole py ds r h
theorem pure__law_is_fraction (py : Prop) (ds : List D) (r : Res) (h : R__law_is_fraction py ds r) : w__law_is_fraction (fun g => r = .err g) py (endsOf r) (startΓ ["_law_found"] ds) := pure_is_fraction py ds r h
theorem pure__law_fraction (py : Prop) (ds : List D) (r : Res) (h : R__law_fraction py ds r) : w__law_fraction (fun g => r = .err g) py (endsOf r) (startΓ ["_law_top", "_law_bottom", "_law_by"] ds) := by
  obtain ⟨a, b, rfl, hp, hb, rfl⟩ := h
  have q := pure_fraction py [.int a, .int b] (.ok (frD (Rat.divInt a b))) ⟨a, b, rfl, hp, by rw [if_neg hb]⟩
  have q2 : w_fraction (fun g => Res.ok (frD (Rat.divInt a b)) = .err g) py (endsOf (.ok (frD (Rat.divInt a b)))) (startΓ ["top", "bottom", "by"] [.int a, .int b]) = (match decide (b = 0) with
    | true => Res.ok (frD (Rat.divInt a b)) = Res.err 0
    | false => w__law_fraction (fun g => Res.ok (frD (Rat.divInt a b)) = .err g) py (endsOf (.ok (frD (Rat.divInt a b)))) (startΓ ["_law_top", "_law_bottom", "_law_by"] [.int a, .int b])) := rfl
  rw [q2, decide_eq_false hb] at q
  exact q
theorem fr_num (a b : Int) (hb : b ≠ 0) : (Rat.divInt a b).num * b = a * (Rat.divInt a b).den := by
  have h := Rat.num_divInt_den (Rat.divInt a b)
  have e := (Rat.divInt_eq_divInt_iff (by have := (Rat.divInt a b).den_nz; omega) hb).mp h
  exact e
theorem isFr_frD (q : Rat) : isFr (frD q) = true := by
  unfold frD isFr
  have h1 := q.den_pos
  have h2 := q.reduced
  refine decide_eq_true ⟨by omega, ?_⟩
  unfold Int.gcd
  rw [Int.natAbs_natCast]
  exact h2
theorem divInt_num_le (a b : Int) (hb : b ≠ 0) : (Rat.divInt a b).num.natAbs ≤ a.natAbs ∧ (Rat.divInt a b).den ≤ b.natAbs := by
  rw [Rat.num_divInt, Rat.den_divInt, if_neg hb]
  refine ⟨?_, Nat.div_le_self _ _⟩
  have e : (b.sign * a).natAbs = a.natAbs := by
    rw [Int.natAbs_mul]
    rcases Int.lt_trichotomy b 0 with h | h | h
    · rw [Int.sign_eq_neg_one_of_neg h]; exact Nat.one_mul _
    · exact absurd h hb
    · rw [Int.sign_eq_one_of_pos h]; exact Nat.one_mul _
  have h2 := Int.natAbs_ediv_le_natAbs (b.sign * a) (b.gcd a)
  omega
end DL

set_option linter.all false
set_option autoImplicit false
set_option maxRecDepth 10000
set_option maxHeartbeats 400000
namespace DL
open PySem PySem.Spec L2
local macro_rules | `(tactic| walk_at "dl") => `(tactic| simp -implicitDefEqProofs only [wSeq, wNext, wSet, wSetL, wAsg, wPar, parD, wRet, wExpr, wApp, wSetIx, wIf, wFrz, wRaise, wBreak, wCont, eVar, eC, eOp, tBl, dI, dB, dAdd, dSub, dMul, dFdiv, dMod, dPow, eNeg, dLt, dLe, dGt, dGe, dEq, dNe, dIs, dIsNot, eAnd, eOr, eNot, tAndD, tOrD, tNotD,
  aNil, aCons, eTup, eLst, lLst, eL, dIx, eSl, dSl, oNo, oSome, eCB, cLen, cAbs, cMax, cMin, cTuple, cList, cInt, eIsi, isiD, dName, dTupT, dCons, dNil, eCell, cellP, eCall, startΓ, startS, List.getElem?_cons_zero, List.getElem?_cons_succ, List.set, List.map, List.length, List.replicate, List.append, List.cons_append, List.nil_append, Nat.sub_self, Nat.reduceAdd, Nat.reduceSub, true_and, ixD_0, ixD_1, ixD_2, ixD_3, ixD_4, ixD_5, ixD_6, ixD_7, ixD_8, ixD_9, ixD_10, ixD_11, ixD_12, ixD_13, ixD_14, ixD_15, ixD_16, ixD_17, ixD_18, ixD_19])
/-! ### fractions reckoned -/
def Sz (n : Nat) (q : Rat) : Prop := q.num.natAbs < 2 ^ n ∧ q.den < 2 ^ n
def Lim (py : Prop) (n : Nat) : Prop := n ≤ 134217728 ∧ (n < 9000 ∨ py)
theorem Sz.up {m n : Nat} {q : Rat} (h : Sz m q) (hn : m ≤ n) : Sz n q :=
  ⟨Nat.lt_of_lt_of_le h.1 (Nat.pow_le_pow_right (by decide) hn), Nat.lt_of_lt_of_le h.2 (Nat.pow_le_pow_right (by decide) hn)⟩
theorem Lim.low {py : Prop} {m n : Nat} (h : Lim py n) (hm : m ≤ n) : Lim py m := ⟨Nat.le_trans hm h.1, h.2.imp (fun z => Nat.lt_of_le_of_lt hm z) id⟩
def R_sum_of (py : Prop) : List D → Res → Prop := fun ds r => ∃ (p q : Rat) (m n : Nat), ds = [frD p, frD q] ∧ Sz m p ∧ Sz n q ∧ Lim py (m + n) ∧ r = .ok (frD (p + q))
def R_product_of (py : Prop) : List D → Res → Prop := fun ds r => ∃ (p q : Rat) (m n : Nat), ds = [frD p, frD q] ∧ Sz m p ∧ Sz n q ∧ Lim py (m + n) ∧ r = .ok (frD (p * q))
def R_part_of (py : Prop) : List D → Res → Prop := fun ds r => ∃ (p q : Rat) (m n : Nat), ds = [frD p, frD q] ∧ Sz m p ∧ Sz n q ∧ Lim py (m + n) ∧ r = if q = 0 then .err 0 else .ok (frD (p / q))
def w_sum_of (Ex : Nat → Prop) (py : Prop) : DS :=
  (wRet (eCall Ex (R_fraction py) (aCons (eOp dAdd (eOp dMul (eOp dIx (eVar 0) (eC (.int 0))) (eOp dIx (eVar 1) (eC (.int 1)))) (eOp dMul (eOp dIx (eVar 1) (eC (.int 0))) (eOp dIx (eVar 0) (eC (.int 1))))) (aCons (eOp dMul (eOp dIx (eVar 0) (eC (.int 1))) (eOp dIx (eVar 1) (eC (.int 1)))) aNil))))

def w_product_of (Ex : Nat → Prop) (py : Prop) : DS :=
  (wRet (eCall Ex (R_fraction py) (aCons (eOp dMul (eOp dIx (eVar 0) (eC (.int 0))) (eOp dIx (eVar 1) (eC (.int 0)))) (aCons (eOp dMul (eOp dIx (eVar 0) (eC (.int 1))) (eOp dIx (eVar 1) (eC (.int 1)))) aNil))))

def w_part_of (Ex : Nat → Prop) (py : Prop) : DS :=
  (wRet (eCall Ex (R_fraction py) (aCons (eOp dMul (eOp dIx (eVar 0) (eC (.int 0))) (eOp dIx (eVar 1) (eC (.int 1)))) (aCons (eOp dMul (eOp dIx (eVar 0) (eC (.int 1))) (eOp dIx (eVar 1) (eC (.int 0)))) aNil))))

theorem log_mul {a b : Int} {m n : Nat} (ha : a.natAbs < 2 ^ m) (hb : b.natAbs < 2 ^ n) (py : Prop) (h : m + n < 9000 ∨ py) : (a * b).natAbs.log2 < 9000 ∨ py := by
  refine h.imp (fun z => ?_) id
  by_cases h0 : (a * b).natAbs = 0
  · rw [h0]; decide
  · rw [Nat.log2_lt h0, Int.natAbs_mul]
    exact Nat.lt_of_lt_of_le (Nat.mul_lt_mul'' ha hb) (by rw [← Nat.pow_add]; exact Nat.pow_le_pow_right (by decide) (Nat.le_of_lt z))
theorem rat_sum (p q : Rat) : Rat.divInt (p.num * (q.den : Int) + q.num * (p.den : Int)) ((p.den : Int) * (q.den : Int)) = p + q := by
  rw [Rat.add_def', ← Rat.divInt_ofNat, Int.natCast_mul]
theorem rat_prod (p q : Rat) : Rat.divInt (p.num * q.num) ((p.den : Int) * (q.den : Int)) = p * q := by
  rw [Rat.mul_def', ← Rat.divInt_ofNat, Int.natCast_mul]
theorem rat_part (p q : Rat) : Rat.divInt (p.num * (q.den : Int)) ((p.den : Int) * q.num) = p / q := by
  rw [Rat.div_def, Rat.inv_def]
  have := Rat.divInt_mul_divInt p.num (q.den : Int) (d₁ := p.den) (d₂ := q.num)
  rw [Rat.num_divInt_den] at this
  exact this.symm
theorem den_ne (p q : Rat) : (p.den : Int) * (q.den : Int) ≠ 0 := by
  have h1 := p.den_pos
  have h2 := q.den_pos
  have := Int.mul_pos (a := (p.den : Int)) (b := (q.den : Int)) (by omega) (by omega)
  omega
theorem Sz.dn {n : Nat} {q : Rat} (h : Sz n q) : ((q.den : Int)).natAbs < 2 ^ n := by rw [Int.natAbs_natCast]; exact h.2
theorem pure_sum_of (py : Prop) (ds : List D) (r : Res) (h : R_sum_of py ds r) : w_sum_of (fun g => r = .err g) py (endsOf r) (startΓ ["one", "other"] ds) := by
  obtain ⟨p, q, m, n, rfl, hp, hq, hl, rfl⟩ := h
  unfold w_sum_of frD
  walk_at "dl"
  refine ⟨mulx_of hp.1 hq.dn hl.1, mulx_of hq.1 hp.dn (by have := hl.1; omega), mulx_of hp.dn hq.dn hl.1, ?_⟩
  refine call_ok ⟨_, _, rfl, log_mul hp.dn hq.dn py hl.2, ?_⟩ rfl
  rw [if_neg (den_ne p q), rat_sum]
  rfl
theorem pure_product_of (py : Prop) (ds : List D) (r : Res) (h : R_product_of py ds r) : w_product_of (fun g => r = .err g) py (endsOf r) (startΓ ["one", "other"] ds) := by
  obtain ⟨p, q, m, n, rfl, hp, hq, hl, rfl⟩ := h
  unfold w_product_of frD
  walk_at "dl"
  refine ⟨mulx_of hp.1 hq.1 hl.1, mulx_of hp.dn hq.dn hl.1, ?_⟩
  refine call_ok ⟨_, _, rfl, log_mul hp.dn hq.dn py hl.2, ?_⟩ rfl
  rw [if_neg (den_ne p q), rat_prod]
  rfl
theorem pure_part_of (py : Prop) (ds : List D) (r : Res) (h : R_part_of py ds r) : w_part_of (fun g => r = .err g) py (endsOf r) (startΓ ["one", "other"] ds) := by
  obtain ⟨p, q, m, n, rfl, hp, hq, hl, rfl⟩ := h
  unfold w_part_of
  have key : ∀ r : Res, r = (if q = 0 then .err 0 else .ok (frD (p / q))) → w_part_of (fun g => r = .err g) py (endsOf r) (startΓ ["one", "other"] [frD p, frD q]) := fun r hr => by
    unfold w_part_of frD
    walk_at "dl"
    refine ⟨mulx_of hp.1 hq.dn hl.1, mulx_of hp.dn hq.1 hl.1, r, ⟨_, _, rfl, log_mul hp.dn hq.1 py hl.2, ?_⟩, ?_⟩
    · rw [hr, rat_part]
      have h1 := p.den_pos
      by_cases hq0 : q = 0
      · subst hq0
        rw [if_pos rfl, if_pos (by show (p.den : Int) * 0 = 0; exact Int.mul_zero _)]
      · have : q.num ≠ 0 := fun z => hq0 (Rat.num_eq_zero.mp z)
        rw [if_neg hq0, if_neg (Int.mul_ne_zero (by omega) this)]
    · cases r with
      | ok d => rfl
      | err g => rfl
  exact key _ rfl
/-! ### the law's numbers -/
def numQ (x : Int) : Rat := if x % 8 < 5 then ((x / 8 % 13 - 6 : Int) : Rat) else if 0 < x / 8 % 16 then Rat.divInt (x / 128 % 25 - 12) (1 + x / 3200 % 9)
  else Rat.divInt (x * x / 128 % 2000001 - 1000000) (1 + x / 128 % (if x / 128000 % 2 = 0 then 1 else 1000))
theorem numQ_sz (x : Int) : Sz 20 (numQ x) := by
  unfold numQ Sz
  split
  · rw [Rat.num_intCast, Rat.den_intCast]
    exact ⟨by omega, by decide⟩
  · split
    · obtain ⟨h1, h2⟩ := divInt_num_le (x / 128 % 25 - 12) (1 + x / 3200 % 9) (by omega)
      exact ⟨by omega, by omega⟩
    · have h3 := Int.emod_nonneg (x * x / 128) (show (2000001 : Int) ≠ 0 by decide)
      have h4 := Int.emod_lt_of_pos (x * x / 128) (show (0 : Int) < 2000001 by decide)
      have h5 : 0 ≤ x / 128 % (if x / 128000 % 2 = 0 then 1 else 1000) ∧ x / 128 % (if x / 128000 % 2 = 0 then 1 else 1000) < 1000 := by split <;> omega
      obtain ⟨h1, h2⟩ := divInt_num_le (x * x / 128 % 2000001 - 1000000) (1 + x / 128 % (if x / 128000 % 2 = 0 then 1 else 1000)) (by omega)
      exact ⟨by omega, by omega⟩
def R__law_number (py : Prop) : List D → Res → Prop := fun ds r => ∃ x : Int, ds = [.int x] ∧ (0 ≤ x ∧ x < 2147483647) ∧ r = .ok (frD (numQ x))
def w__law_number (Ex : Nat → Prop) (py : Prop) : DS :=
  (wSeq (wIf (tBl (eOp dLt (eOp dMod (eVar 0) (eC (.int 8))) (eC (.int 5))))
  (wRet (eTup (aCons (eOp dSub (eOp dMod (eOp (dFdiv py) (eVar 0) (eC (.int 8))) (eC (.int 13))) (eC (.int 6))) (aCons (eC (.int 1)) aNil))))
  wNext)
  (wSeq (wIf (tBl (eOp dGt (eOp dMod (eOp (dFdiv py) (eVar 0) (eC (.int 8))) (eC (.int 16))) (eC (.int 0))))
  (wRet (eCall Ex (R__law_fraction py) (aCons (eOp dSub (eOp dMod (eOp (dFdiv py) (eVar 0) (eC (.int 128))) (eC (.int 25))) (eC (.int 12))) (aCons (eOp dAdd (eC (.int 1)) (eOp dMod (eOp (dFdiv py) (eVar 0) (eC (.int 3200))) (eC (.int 9)))) aNil))))
  wNext)
  (wRet (eCall Ex (R__law_fraction py) (aCons (eOp dSub (eOp dMod (eOp (dFdiv py) (eOp dMul (eVar 0) (eVar 0)) (eC (.int 128))) (eC (.int 2000001))) (eC (.int 1000000))) (aCons (eOp dAdd (eC (.int 1)) (eOp dMod (eOp (dFdiv py) (eVar 0) (eC (.int 128))) (eOp dIx (eLst (aCons (eC (.int 1)) (aCons (eC (.int 1000)) aNil))) (eOp dMod (eOp (dFdiv py) (eVar 0) (eC (.int 128000))) (eC (.int 2)))))) aNil))))))

theorem pure__law_number (py : Prop) (ds : List D) (r : Res) (h : R__law_number py ds r) : w__law_number (fun g => r = .err g) py (endsOf r) (startΓ ["_law_x"] ds) := by
  obtain ⟨x, rfl, hx, rfl⟩ := h
  unfold w__law_number
  have z8 : (0 : Int) < 8 ∧ ((8 : Int).natAbs.log2 < 9000 ∨ py) := ⟨by decide, .inl (by decide)⟩
  have z128 : (0 : Int) < 128 ∧ ((128 : Int).natAbs.log2 < 9000 ∨ py) := ⟨by decide, .inl (by decide)⟩
  have z3200 : (0 : Int) < 3200 ∧ ((3200 : Int).natAbs.log2 < 9000 ∨ py) := ⟨by decide, .inl (by decide)⟩
  have z128000 : (0 : Int) < 128000 ∧ ((128000 : Int).natAbs.log2 < 9000 ∨ py) := ⟨by decide, .inl (by decide)⟩
  walk_at "dl"
  refine ⟨z8.1, ?_⟩
  by_cases h1 : x % 8 < 5
  · rw [decide_eq_true h1]
    refine ⟨z8, by decide, ?_⟩
    unfold numQ frD
    rw [if_pos h1, Rat.num_intCast, Rat.den_intCast]
    rfl
  · rw [decide_eq_false h1]
    refine ⟨z8, by decide, ?_⟩
    by_cases h2 : 0 < x / 8 % 16
    · rw [decide_eq_true h2]
      refine ⟨z128, by decide, z3200, by decide, ?_⟩
      refine call_ok ⟨_, _, rfl, .inl ?_, by omega, rfl⟩ ?_
      · rw [Nat.log2_lt (by omega)]
        refine Nat.lt_of_lt_of_le (m := 2 ^ 5) (by omega) (Nat.pow_le_pow_right (by decide) (by decide))
      · unfold numQ
        rw [if_neg h1, if_pos h2]
    · rw [decide_eq_false h2]
      refine ⟨mulx_of (a := 32) (b := 32) (by omega) (by omega) (by decide), z128, by decide, z128, z128000, by decide, ?_⟩
      have e2 : x / 128000 % 2 = 0 ∨ x / 128000 % 2 = 1 := by omega
      have fin : ∀ m : Int, m = (if x / 128000 % 2 = 0 then 1 else 1000) → ∃ r, R__law_fraction py [PyData.int (x * x / 128 % 2000001 - 1000000), PyData.int (1 + x / 128 % m)] r ∧ match r with
          | .ok d => Res.ok (frD (numQ x)) = .ok d
          | .err g => Res.ok (frD (numQ x)) = .err g := fun m hm => by
        have hm2 : 0 < m ∧ m ≤ 1000 := by rw [hm]; split <;> omega
        have h3 := Int.emod_nonneg (x / 128) (show m ≠ 0 by omega)
        have h4 := Int.emod_lt_of_pos (x / 128) hm2.1
        refine call_ok ⟨_, _, rfl, .inl ?_, by omega, rfl⟩ ?_
        · rw [Nat.log2_lt (by omega)]
          refine Nat.lt_of_lt_of_le (m := 2 ^ 10) (by omega) (Nat.pow_le_pow_right (by decide) (by decide))
        · unfold numQ
          rw [if_neg h1, if_neg h2, hm]
      rcases e2 with e2 | e2
      · rw [e2]
        exact ⟨by decide, fin 1 (by rw [e2]; rfl)⟩
      · rw [e2]
        exact ⟨by decide, fin 1000 (by rw [e2]; rfl)⟩
end DL

set_option linter.all false
set_option autoImplicit false
namespace DL
/-! ### rows as lists of fractions, read as functions of the letter -/
def ev : List Rat → Rat → Rat
  | [], _ => 0
  | a :: l, x => a + x * ev l x
def addL : List Rat → List Rat → List Rat
  | [], q => q
  | a :: p, [] => a :: p
  | a :: p, b :: q => (a + b) :: addL p q
def sclL (c : Rat) (l : List Rat) : List Rat := l.map (· * c)
def mulL : List Rat → List Rat → List Rat
  | [], _ => []
  | a :: p, q => addL (sclL a q) (0 :: mulL p q)
def trim : List Rat → List Rat
  | [] => []
  | a :: l => if trim l = [] then (if a = 0 then [] else [a]) else a :: trim l
theorem ev_nil (x : Rat) : ev [] x = 0 := rfl
theorem ev_cons (a : Rat) (l : List Rat) (x : Rat) : ev (a :: l) x = a + x * ev l x := rfl
theorem ev_add (p q : List Rat) (x : Rat) : ev (addL p q) x = ev p x + ev q x := by
  induction p generalizing q with
  | nil => unfold addL ev; grind
  | cons a p ih =>
    cases q with
    | nil => unfold addL; rw [ev_nil]; grind
    | cons b q => rw [addL, ev_cons, ev_cons, ev_cons, ih]; grind
theorem ev_scl (c : Rat) (l : List Rat) (x : Rat) : ev (sclL c l) x = ev l x * c := by
  induction l with
  | nil => unfold sclL; rw [List.map_nil, ev_nil]; grind
  | cons a l ih => unfold sclL at ih ⊢; rw [List.map_cons, ev_cons, ev_cons, ih]; grind
theorem ev_mul (p q : List Rat) (x : Rat) : ev (mulL p q) x = ev p x * ev q x := by
  induction p with
  | nil => rw [mulL, ev_nil]; grind
  | cons a p ih => rw [mulL, ev_add, ev_cons, ev_scl, ev_cons, ih]; grind
theorem ev_trim (l : List Rat) (x : Rat) : ev (trim l) x = ev l x := by
  induction l with
  | nil => rfl
  | cons a l ih =>
    rw [trim]
    split
    · rename_i h
      rw [h, ev_nil] at ih
      split
      · rename_i h2; rw [ev_nil, ev_cons, ← ih, h2]; grind
      · rw [ev_cons, ev_cons, ← ih, ev_nil]
    · rw [ev_cons, ev_cons, ih]
theorem ev_append (p q : List Rat) (x : Rat) : ev (p ++ q) x = ev p x + x ^ p.length * ev q x := by
  induction p with
  | nil => rw [List.nil_append, ev_nil, List.length_nil]; grind
  | cons a p ih => rw [List.cons_append, ev_cons, ev_cons, ih, List.length_cons]; grind
theorem ev_zeros (n : Nat) (x : Rat) : ev (List.replicate n 0) x = 0 := by
  induction n with
  | zero => rfl
  | succ n ih => rw [List.replicate_succ, ev_cons, ih]; grind
theorem ev_set (l : List Rat) (i : Nat) (v : Rat) (x : Rat) (h : i < l.length) : ev (l.set i v) x = ev l x + x ^ i * (v - l[i]) := by
  induction l generalizing i with
  | nil => exact absurd h (Nat.not_lt_zero _)
  | cons a l ih =>
    cases i with
    | zero => rw [List.set_cons_zero, ev_cons, ev_cons, List.getElem_cons_zero]; grind
    | succ i => rw [List.set_cons_succ, ev_cons, ev_cons, ih i (Nat.lt_of_succ_lt_succ h), List.getElem_cons_succ]; grind
/-! a row that is nought everywhere is noughts -/
/-- by the letter and a number: the row and the rest -/
def hor (r : Rat) : List Rat → List Rat × Rat
  | [] => ([], 0)
  | a :: l => ((hor r l).2 :: (hor r l).1, a + r * (hor r l).2)
theorem ev_hor (r : Rat) (l : List Rat) (x : Rat) : ev l x = (hor r l).2 + (x - r) * ev (hor r l).1 x := by
  induction l with
  | nil => show (0 : Rat) = 0 + (x - r) * 0; grind
  | cons a l ih => rw [hor, ev_cons, ev_cons, ih]; grind
theorem hor_len (r : Rat) (l : List Rat) : (hor r l).1.length = l.length := by
  induction l with
  | nil => rfl
  | cons a l ih => rw [hor, List.length_cons, List.length_cons, ih]
theorem hor_last (r : Rat) (l : List Rat) (h : l ≠ []) : ∃ q, (hor r l).1 = q ++ [0] := by
  induction l with
  | nil => exact absurd rfl h
  | cons a l ih =>
    cases l with
    | nil => exact ⟨[], rfl⟩
    | cons b l =>
      obtain ⟨q, e⟩ := ih (by simp)
      refine ⟨(hor r (b :: l)).2 :: q, ?_⟩
      show (hor r (b :: l)).2 :: (hor r (b :: l)).1 = _
      rw [e]; rfl
theorem hor_zero (r : Rat) (l : List Rat) (h : ∀ a ∈ (hor r l).1, a = 0) (h2 : (hor r l).2 = 0) : ∀ a ∈ l, a = 0 := by
  induction l with
  | nil => intro a ha; cases ha
  | cons b l ih =>
    rw [hor] at h h2
    have s : (hor r l).2 = 0 := h _ (List.mem_cons_self ..)
    have hb : b = 0 := by
      have h3 : b + r * (hor r l).2 = 0 := h2
      rw [s] at h3; grind
    intro a ha
    rcases List.mem_cons.mp ha with rfl | ha
    · exact hb
    · exact ih (fun a h' => h a (List.mem_cons_of_mem _ h')) s a ha
theorem ev_zero_from : ∀ (n : Nat) (l : List Rat) (N : Nat), l.length = n → (∀ k : Nat, N ≤ k → ev l (k : Rat) = 0) → ∀ a ∈ l, a = 0
  | 0, l, N, hl, _ => by rw [List.length_eq_zero_iff.mp hl]; intro a ha; cases ha
  | n + 1, l, N, hl, h => by
    have hne : l ≠ [] := fun z => by rw [z] at hl; cases hl
    have s : (hor (N : Rat) l).2 = 0 := by
      have := ev_hor (N : Rat) l (N : Rat)
      rw [h N (Nat.le_refl _)] at this
      grind
    obtain ⟨q, hq⟩ := hor_last (N : Rat) l hne
    have lq : q.length = n := by
      have := hor_len (N : Rat) l
      rw [hq, List.length_append, hl] at this
      exact Nat.succ.inj this
    refine hor_zero (N : Rat) l ?_ s
    rw [hq]
    have z := ev_zero_from n q (N + 1) lq fun k hk => by
      have := ev_hor (N : Rat) l (k : Rat)
      rw [h k (Nat.le_of_succ_le hk), s, hq, ev_append, ev_cons, ev_nil] at this
      have hk3 : (k : Rat) ≠ (N : Rat) := fun z => by
        have := Rat.natCast_inj.mp z
        omega
      have hk2 : (k : Rat) - (N : Rat) ≠ 0 := fun z => hk3 (by grind)
      have h4 : ((k : Rat) - (N : Rat)) * ev q k = 0 := by grind
      rcases Rat.mul_eq_zero.mp h4 with z | z
      · exact absurd z hk2
      · exact z
    intro a ha
    rcases List.mem_append.mp ha with ha | ha
    · exact z a ha
    · exact List.mem_singleton.mp ha
theorem ev_zero (l : List Rat) (h : ∀ x, ev l x = 0) : ∀ a ∈ l, a = 0 := ev_zero_from l.length l 0 rfl fun k _ => h k
theorem trim_zeros (l : List Rat) (h : ∀ a ∈ l, a = 0) : trim l = [] := by
  induction l with
  | nil => rfl
  | cons a l ih => rw [trim, ih fun b hb => h b (List.mem_cons_of_mem _ hb), if_pos rfl, if_pos (h a (List.mem_cons_self ..))]
theorem trim_ext (p q : List Rat) (h : ∀ x, ev p x = ev q x) : trim p = trim q := by
  have d : ∀ a ∈ addL p (sclL (-1) q), a = 0 := ev_zero _ fun x => by rw [ev_add, ev_scl, h]; grind
  clear h
  induction p generalizing q with
  | nil =>
    rw [addL] at d
    refine (trim_zeros q fun a ha => ?_).symm
    have := d (a * (-1)) (List.mem_map.mpr ⟨a, ha, rfl⟩)
    grind
  | cons a p ih =>
    cases q with
    | nil => exact trim_zeros _ d
    | cons b q =>
      have h1 := d (a + b * (-1)) (List.mem_cons_self ..)
      have h2 := ih q fun c hc => d c (List.mem_cons_of_mem _ hc)
      have h3 : a = b := by grind
      rw [trim, trim, h2, h3]
def IsRow (l : List Rat) : Prop := trim l = l
theorem trim_idem (l : List Rat) : trim (trim l) = trim l := trim_ext _ _ (ev_trim l)
theorem row_trim (l : List Rat) : IsRow (trim l) := trim_idem l
theorem row_ext {p q : List Rat} (hp : IsRow p) (hq : IsRow q) (h : ∀ x, ev p x = ev q x) : p = q := by
  have := trim_ext p q h
  rw [hp, hq] at this
  exact this
theorem trim_zero (l : List Rat) : trim (l ++ [0]) = trim l := trim_ext _ _ fun x => by rw [ev_append, ev_cons, ev_nil]; grind
theorem trim_last (l : List Rat) (a : Rat) (h : a ≠ 0) : trim (l ++ [a]) = l ++ [a] := by
  induction l with
  | nil => rw [List.nil_append, trim, trim, if_pos rfl, if_neg h]
  | cons b l ih => rw [List.cons_append, trim, ih, if_neg (by simp)]
theorem row_nil : IsRow [] := rfl
theorem row_snoc (l : List Rat) {a : Rat} (h : a ≠ 0) : IsRow (l ++ [a]) := trim_last l a h
theorem snoc_row {l : List Rat} {a : Rat} (h : IsRow (l ++ [a])) : a ≠ 0 := fun z => by
  subst z
  have h2 : trim (l ++ [0]) = l ++ [0] := h
  rw [trim_zero] at h2
  have h3 : (trim l).length ≤ l.length := by
    clear h h2
    induction l with
    | nil => exact Nat.le_refl _
    | cons b l ih =>
      rw [trim]
      split
      · split
        · exact Nat.zero_le _
        · exact Nat.le_add_left _ _
      · exact Nat.succ_le_succ ih
  rw [h2, List.length_append] at h3
  have : l.length + 1 ≤ l.length := h3
  omega
theorem trim_len (l : List Rat) : (trim l).length ≤ l.length := by
  induction l with
  | nil => exact Nat.le_refl _
  | cons b l ih =>
    rw [trim]
    split
    · split
      · exact Nat.zero_le _
      · exact Nat.le_add_left _ _
    · exact Nat.succ_le_succ ih
theorem trim_sub (l : List Rat) : ∀ a ∈ trim l, a ∈ l := by
  induction l with
  | nil => intro a h; cases h
  | cons b l ih =>
    intro a
    rw [trim]
    split
    · split
      · intro h; cases h
      · intro h; rw [List.mem_singleton.mp h]; exact List.mem_cons_self ..
    · intro h
      rcases List.mem_cons.mp h with rfl | h
      · exact List.mem_cons_self ..
      · exact List.mem_cons_of_mem _ (ih a h)
theorem row_eq_nil_iff {l : List Rat} (h : IsRow l) : l = [] ↔ ∀ x, ev l x = 0 :=
  ⟨fun e x => by rw [e, ev_nil], fun e => by rw [← h]; exact trim_zeros l (ev_zero l e)⟩
theorem snoc_cases (l : List Rat) : l = [] ∨ ∃ p a, l = p ++ [a] := by
  rcases List.eq_nil_or_concat l with h | ⟨p, a, h⟩
  · exact .inl h
  · exact .inr ⟨p, a, by rw [h, List.concat_eq_append]⟩
end DL

set_option linter.all false
set_option autoImplicit false
namespace DL
/-! ### sizes: whole numbers over one number below -/
def Ib (B : Nat) (x : Rat) : Prop := ∃ z : Int, x = (z : Rat) ∧ z.natAbs ≤ B
theorem Ib.up {B C : Nat} {x : Rat} (h : Ib B x) (hl : B ≤ C) : Ib C x := let ⟨z, e, h⟩ := h; ⟨z, e, Nat.le_trans h hl⟩
theorem Ib.add {B C : Nat} {x y : Rat} (h : Ib B x) (h2 : Ib C y) : Ib (B + C) (x + y) := by
  obtain ⟨z, rfl, h⟩ := h
  obtain ⟨u, rfl, h2⟩ := h2
  exact ⟨z + u, by rw [Rat.intCast_add], by omega⟩
theorem Ib.mul {B C : Nat} {x y : Rat} (h : Ib B x) (h2 : Ib C y) : Ib (B * C) (x * y) := by
  obtain ⟨z, rfl, h⟩ := h
  obtain ⟨u, rfl, h2⟩ := h2
  exact ⟨z * u, by rw [Rat.intCast_mul], by rw [Int.natAbs_mul]; exact Nat.mul_le_mul h h2⟩
theorem Ib.neg {B : Nat} {x : Rat} (h : Ib B x) : Ib B (-x) := by
  obtain ⟨z, rfl, h⟩ := h
  exact ⟨-z, by rw [Rat.intCast_neg], by omega⟩
theorem Ib.zero (B : Nat) : Ib B 0 := ⟨0, rfl, Nat.zero_le _⟩
theorem Ib.nat (n : Nat) : Ib n (n : Rat) := ⟨n, rfl, Nat.le_refl _⟩
theorem rat_of_mul {q : Rat} {E : Nat} {z : Int} (hE : 0 < E) (h : q * (E : Rat) = (z : Rat)) : q = Rat.divInt z E := by
  have hE2 : (E : Rat) ≠ 0 := fun e => by
    have := Rat.natCast_inj.mp (e.trans (show (0 : Rat) = ((0 : Nat) : Rat) from rfl))
    omega
  rw [Rat.divInt_eq_div]
  show q = (z : Rat) / ((E : Int) : Rat)
  rw [← h]
  show q = q * (E : Rat) / (E : Rat)
  grind
theorem sz_of {q : Rat} {E B m : Nat} (hE : 0 < E) (h1 : E < 2 ^ m) (h2 : B < 2 ^ m) (h : Ib B (q * E)) : Sz m q := by
  obtain ⟨z, e, hz⟩ := h
  rw [rat_of_mul hE e]
  obtain ⟨n1, n2⟩ := divInt_num_le z E (by omega)
  exact ⟨Nat.lt_of_le_of_lt n1 (by omega), Nat.lt_of_le_of_lt n2 (by rw [Int.natAbs_natCast]; exact h1)⟩
theorem ib_of (q : Rat) : Ib q.num.natAbs (q * (q.den : Rat)) := ⟨q.num, by
  have e := Rat.num_divInt_den q
  have h : ((q.den : Int) : Rat) ≠ 0 := fun z => by
    have h3 : ((q.den : Int) : Rat) = ((0 : Int) : Rat) := z
    have := Rat.intCast_inj.mp h3
    have := q.den_pos
    omega
  rw [Rat.divInt_eq_div] at e
  have e2 : q * ((q.den : Int) : Rat) = (q.num : Rat) := by grind
  exact e2, Nat.le_refl _⟩
/-- all of a row over E, at most B -/
def Ce (E B : Nat) (l : List Rat) : Prop := ∀ q ∈ l, Ib B (q * E)
theorem Ce.up {E B C : Nat} {l : List Rat} (h : Ce E B l) (hl : B ≤ C) : Ce E C l := fun q hq => (h q hq).up hl
theorem Ce.wide {E B F : Nat} {l : List Rat} (h : Ce E B l) : Ce (E * F) (B * F) l := fun q hq => by
  have := (h q hq).mul (Ib.nat F)
  have e : q * (E : Rat) * (F : Rat) = q * ((E * F : Nat) : Rat) := by rw [Rat.natCast_mul]; grind
  rw [e] at this
  exact this
theorem Ce.sub {E B : Nat} {l l' : List Rat} (h : Ce E B l) (hs : ∀ q ∈ l', q ∈ l) : Ce E B l' := fun q hq => h q (hs q hq)
theorem Ce.nil {E B : Nat} : Ce E B [] := fun q hq => nomatch hq
theorem Ce.cons {E B : Nat} {a : Rat} {l : List Rat} (h : Ib B (a * E)) (h2 : Ce E B l) : Ce E B (a :: l) := fun q hq => by
  rcases List.mem_cons.mp hq with rfl | hq
  · exact h
  · exact h2 q hq
theorem Ce.add {E B C : Nat} {p q : List Rat} (h : Ce E B p) (h2 : Ce E C q) : Ce E (B + C) (addL p q) := by
  induction p generalizing q with
  | nil => exact h2.up (Nat.le_add_left _ _)
  | cons a p ih =>
    cases q with
    | nil => exact h.up (Nat.le_add_right _ _)
    | cons b q =>
      refine .cons ?_ (ih (fun x hx => h x (List.mem_cons_of_mem _ hx)) fun x hx => h2 x (List.mem_cons_of_mem _ hx))
      have := (h a (List.mem_cons_self ..)).add (h2 b (List.mem_cons_self ..))
      have e : a * (E : Rat) + b * (E : Rat) = (a + b) * (E : Rat) := by grind
      rw [e] at this
      exact this
theorem Ce.scl {E B F C : Nat} {c : Rat} {l : List Rat} (h : Ce E B l) (h2 : Ib C (c * F)) : Ce (E * F) (B * C) (sclL c l) := fun q hq => by
  obtain ⟨a, ha, rfl⟩ := List.mem_map.mp hq
  have := (h a ha).mul h2
  have e : a * (E : Rat) * (c * (F : Rat)) = a * c * ((E * F : Nat) : Rat) := by rw [Rat.natCast_mul]; grind
  rw [e] at this
  exact this
theorem Ce.mul {E B F C : Nat} {p q : List Rat} (h : Ce E B p) (h2 : Ce F C q) : Ce (E * F) (p.length * (B * C)) (mulL p q) := by
  induction p with
  | nil => exact .nil
  | cons a p ih =>
    have e1 : Ce (E * F) (B * C) (sclL a q) := by
      have := h2.scl (h a (List.mem_cons_self ..))
      rw [Nat.mul_comm F E, Nat.mul_comm C B] at this
      exact this
    have e2 := ih fun x hx => h x (List.mem_cons_of_mem _ hx)
    have e3 : Ce (E * F) (p.length * (B * C)) (0 :: mulL p q) := .cons (by rw [Rat.zero_mul]; exact .zero _) e2
    have e4 := e1.add e3
    rw [List.length_cons, Nat.succ_mul, Nat.add_comm]
    exact e4
theorem Ce.trim {E B : Nat} {l : List Rat} (h : Ce E B l) : Ce E B (trim l) := h.sub (trim_sub l)
/-- a row that m bits hold, its fractions over one number -/
def Sr (m : Nat) (l : List Rat) : Prop := ∃ E B, 0 < E ∧ E < 2 ^ m ∧ B < 2 ^ m ∧ Ce E B l
/-- each fraction of a row held by m bits -/
def Az (m : Nat) (l : List Rat) : Prop := ∀ q ∈ l, Sz m q
theorem Sr.az {m : Nat} {l : List Rat} (h : Sr m l) : Az m l := fun q hq => by
  obtain ⟨E, B, h0, h1, h2, h3⟩ := h
  exact sz_of h0 h1 h2 (h3 q hq)
theorem Az.up {m n : Nat} {l : List Rat} (h : Az m l) (hn : m ≤ n) : Az n l := fun q hq => (h q hq).up hn
theorem Sr.up {m n : Nat} {l : List Rat} (h : Sr m l) (hn : m ≤ n) : Sr n l := by
  obtain ⟨E, B, h0, h1, h2, h3⟩ := h
  have := Nat.pow_le_pow_right (n := 2) (by decide) hn
  exact ⟨E, B, h0, by omega, by omega, h3⟩
theorem Sr.trim {m : Nat} {l : List Rat} (h : Sr m l) : Sr m (trim l) := by
  obtain ⟨E, B, h0, h1, h2, h3⟩ := h
  exact ⟨E, B, h0, h1, h2, h3.trim⟩
theorem Sr.sub {m : Nat} {l l' : List Rat} (h : Sr m l) (hs : ∀ q ∈ l', q ∈ l) : Sr m l' := by
  obtain ⟨E, B, h0, h1, h2, h3⟩ := h
  exact ⟨E, B, h0, h1, h2, h3.sub hs⟩
theorem Sr.nil (m : Nat) (h : 0 < m) : Sr m [] := ⟨1, 0, by decide, Nat.one_lt_two_pow (by omega), Nat.two_pow_pos m, .nil⟩
theorem mul_bits {a b m n : Nat} (h : a < 2 ^ m) (h2 : b < 2 ^ n) : a * b < 2 ^ (m + n) := by rw [Nat.pow_add]; exact Nat.mul_lt_mul'' h h2
theorem Sr.add {m n : Nat} {p q : List Rat} (h : Sr m p) (g : Sr n q) : Sr (m + n + 1) (addL p q) := by
  obtain ⟨E, B, h0, h1, h2, h3⟩ := h
  obtain ⟨F, C, g0, g1, g2, g3⟩ := g
  have q1 := h3.wide (F := F)
  have q2 := g3.wide (F := E)
  rw [Nat.mul_comm F E] at q2
  have b1 := mul_bits h2 g1
  have b2 := mul_bits g2 h1
  rw [Nat.add_comm n m] at b2
  have b3 := mul_bits h1 g1
  have e : 2 ^ (m + n + 1) = 2 ^ (m + n) + 2 ^ (m + n) := by rw [Nat.pow_succ]; omega
  exact ⟨E * F, B * F + C * E, Nat.mul_pos h0 g0, by omega, by omega, q1.add q2⟩
theorem Sr.mul {m n k : Nat} {p q : List Rat} (h : Sr m p) (g : Sr n q) (hk : p.length < 2 ^ k) : Sr (m + n + k) (mulL p q) := by
  obtain ⟨E, B, h0, h1, h2, h3⟩ := h
  obtain ⟨F, C, g0, g1, g2, g3⟩ := g
  have b1 := mul_bits h1 g1
  have b2 := mul_bits hk (mul_bits h2 g2)
  rw [Nat.add_comm k] at b2
  have b3 : 2 ^ (m + n) ≤ 2 ^ (m + n + k) := Nat.pow_le_pow_right (by decide) (Nat.le_add_right _ _)
  exact ⟨E * F, p.length * (B * C), Nat.mul_pos h0 g0, by omega, b2, h3.mul g3⟩
theorem Sr.scl {m n : Nat} {c : Rat} {l : List Rat} (h : Sr m l) (h2 : Sz n c) : Sr (m + n) (sclL c l) := by
  obtain ⟨E, B, h0, h1, h2', h3⟩ := h
  exact ⟨E * c.den, B * c.num.natAbs, Nat.mul_pos h0 c.den_pos, mul_bits h1 h2.2, mul_bits h2' h2.1, h3.scl (ib_of c)⟩
/-- a row of numbers that m bits hold each: n of them together -/
theorem sr_of {m : Nat} : ∀ {l : List Rat}, Az m l → Sr (m * l.length + 1) l
  | [], _ => .nil _ (by omega)
  | a :: l, h => by
    obtain ⟨E, B, h0, h1, h2, h3⟩ := sr_of (l := l) fun q hq => h q (List.mem_cons_of_mem _ hq)
    have ha := h a (List.mem_cons_self ..)
    have e : m * (a :: l).length + 1 = m * l.length + 1 + m := by rw [List.length_cons, Nat.mul_succ]; omega
    rw [e]
    refine ⟨E * a.den, max (B * a.den) (a.num.natAbs * E), Nat.mul_pos h0 a.den_pos, mul_bits h1 ha.2, ?_, .cons ?_ ?_⟩
    · have b1 := mul_bits h2 ha.2
      have b2 := mul_bits ha.1 h1
      rw [Nat.add_comm m] at b2
      omega
    · have := (ib_of a).mul (Ib.nat E)
      have e : a * (a.den : Rat) * (E : Rat) = a * ((E * a.den : Nat) : Rat) := by rw [Rat.natCast_mul]; grind
      rw [e] at this
      exact this.up (Nat.le_max_right _ _)
    · exact (h3.wide (F := a.den)).up (Nat.le_max_left _ _)
end DL

set_option linter.all false
set_option autoImplicit false
set_option maxRecDepth 10000
set_option maxHeartbeats 400000
namespace DL
open PySem PySem.Spec L2
local macro_rules | `(tactic| walk_at "dl") => `(tactic| simp -implicitDefEqProofs only [wSeq, wNext, wSet, wSetL, wAsg, wPar, parD, wRet, wExpr, wApp, wSetIx, wIf, wFrz, wRaise, wBreak, wCont, eVar, eC, eOp, tBl, dI, dB, dAdd, dSub, dMul, dFdiv, dMod, dPow, eNeg, dLt, dLe, dGt, dGe, dEq, dNe, dIs, dIsNot, eAnd, eOr, eNot, tAndD, tOrD, tNotD,
  aNil, aCons, eTup, eLst, lLst, eL, dIx, eSl, dSl, oNo, oSome, eCB, cLen, cAbs, cMax, cMin, cTuple, cList, cInt, eIsi, isiD, dName, dTupT, dCons, dNil, eCell, cellP, eCall, startΓ, startS, List.getElem?_cons_zero, List.getElem?_cons_succ, List.set, List.map, List.length, List.replicate, List.append, List.cons_append, List.nil_append, Nat.sub_self, Nat.reduceAdd, Nat.reduceSub, true_and, ixD_0, ixD_1, ixD_2, ixD_3, ixD_4, ixD_5, ixD_6, ixD_7, ixD_8, ixD_9, ixD_10, ixD_11, ixD_12, ixD_13, ixD_14, ixD_15, ixD_16, ixD_17, ixD_18, ixD_19])
theorem len_divisor (py : Prop) (ds : List D) (r : Res) (h : R_divisor py ds r) : ds.length = 2 := by obtain ⟨_, _, rfl, _⟩ := h; rfl
theorem len_fraction (py : Prop) (ds : List D) (r : Res) (h : R_fraction py ds r) : ds.length = 2 := by obtain ⟨_, _, rfl, _⟩ := h; rfl
theorem len_is_whole (py : Prop) (ds : List D) (r : Res) (h : R_is_whole py ds r) : ds.length = 1 := by obtain ⟨_, rfl, _⟩ := h; rfl
theorem len_is_fraction (py : Prop) (ds : List D) (r : Res) (h : R_is_fraction py ds r) : ds.length = 1 := by obtain ⟨_, rfl, _⟩ := h; rfl
theorem len__law_divisor (py : Prop) (ds : List D) (r : Res) (h : R_divisor py ds r) : ds.length = 2 := len_divisor py ds r h
theorem len__law_fraction (py : Prop) (ds : List D) (r : Res) (h : R__law_fraction py ds r) : ds.length = 2 := by obtain ⟨_, _, rfl, _⟩ := h; rfl
theorem len__law_whole (py : Prop) (ds : List D) (r : Res) (h : R_is_whole py ds r) : ds.length = 1 := len_is_whole py ds r h
theorem len__law_is_fraction (py : Prop) (ds : List D) (r : Res) (h : R_is_fraction py ds r) : ds.length = 1 := len_is_fraction py ds r h
theorem len__law_stream (py : Prop) (ds : List D) (r : Res) (h : R__law_stream py ds r) : ds.length = 2 := by obtain ⟨_, _, rfl, _⟩ := h; rfl
theorem len__law_cell_at (ns : List Int) (ds : List D) (d : D) (h : R_cell ns ds d) : ds.length + 1 = 2 := by obtain ⟨_, rfl, _⟩ := h; rfl
theorem len_law (ns : List Int) (ds : List D) (d : D) (h : R_law ns ds d) : ds.length + 1 = 1 := by obtain ⟨rfl, _⟩ := h; rfl
theorem len_sum_of (py : Prop) (ds : List D) (r : Res) (h : R_sum_of py ds r) : ds.length = 2 := by obtain ⟨_, _, _, _, rfl, _⟩ := h; rfl
theorem len_product_of (py : Prop) (ds : List D) (r : Res) (h : R_product_of py ds r) : ds.length = 2 := by obtain ⟨_, _, _, _, rfl, _⟩ := h; rfl
theorem len_part_of (py : Prop) (ds : List D) (r : Res) (h : R_part_of py ds r) : ds.length = 2 := by obtain ⟨_, _, _, _, rfl, _⟩ := h; rfl
theorem len__law_number (py : Prop) (ds : List D) (r : Res) (h : R__law_number py ds r) : ds.length = 1 := by obtain ⟨_, rfl, _⟩ := h; rfl
def w__law_cell_at (Ex : Nat → Prop) (py : Prop) : DS :=
  (wSeq (wIf (tBl (eOp dLt (eVar 1) (eLenO 0)))
  (wRet (eScr 0 (eVar 1)))
  wNext)
  (wRet (eC (.int 0))))

theorem pure__law_cell_at (py : Prop) (Ex : Nat → Prop) (ns : List Int) (ds : List D) (d : D) (h : R_cell ns ds d) : w__law_cell_at Ex py { nx := fun _ => d = .none, rt := fun d' => d = d' } (startS ["_law_script", "_law_k"] ns ds) := by
  obtain ⟨k, rfl, h0, rfl⟩ := h
  unfold w__law_cell_at
  refine seq_go fun nx hnx => ?_
  by_cases hk : k < (ns.length : Int)
  · show (match decide (k < (ns.length : Int)) with
      | true => (match atI ns k with
        | some n => PyData.int (cellD ns k) = PyData.int n
        | none => False)
      | false => nx _)
    rw [decide_eq_true hk]
    obtain ⟨j, rfl⟩ := Int.eq_ofNat_of_zero_le h0
    have hj : j < ns.length := by omega
    have e : atI ns (j : Int) = some (cellD ns j) := by
      refine atI_nat ?_
      unfold cellD
      rw [Int.toNat_natCast, List.getD_eq_getElem?_getD, List.getElem?_eq_getElem hj]
      rfl
    show (match atI ns (j : Int) with
        | some n => PyData.int (cellD ns j) = PyData.int n
        | none => False)
    rw [e]
  · show (match decide (k < (ns.length : Int)) with
      | true => _
      | false => nx [En.scr ns, En.im (.int k)])
    rw [decide_eq_false hk]
    refine hnx _ ?_
    show PyData.int (cellD ns k) = PyData.int 0
    unfold cellD
    rw [List.getD_eq_getElem?_getD, List.getElem?_eq_none (by omega)]
    rfl
end DL

set_option linter.all false
set_option autoImplicit false
set_option maxRecDepth 10000
set_option maxHeartbeats 400000
namespace DL
open PySem PySem.Spec L2
local macro_rules | `(tactic| walk_at "dl") => `(tactic| simp -implicitDefEqProofs only [wSeq, wNext, wSet, wSetL, wAsg, wPar, parD, wRet, wExpr, wApp, wSetIx, wIf, wFrz, wRaise, wBreak, wCont, eVar, eC, eOp, tBl, dI, dB, dAdd, dSub, dMul, dFdiv, dMod, dPow, eNeg, dLt, dLe, dGt, dGe, dEq, dNe, dIs, dIsNot, eAnd, eOr, eNot, tAndD, tOrD, tNotD,
  aNil, aCons, eTup, eLst, lLst, eL, dIx, eSl, dSl, oNo, oSome, eCB, cLen, cAbs, cMax, cMin, cTuple, cList, cInt, eIsi, isiD, dName, dTupT, dCons, dNil, eCell, cellP, eIxO, eLenO, eCall, startΓ, startS, List.getElem?_cons_zero, List.getElem?_cons_succ, List.set, List.map, List.length, List.replicate, List.append, List.cons_append, List.nil_append, Nat.sub_self, Nat.reduceAdd, Nat.reduceSub, true_and, ixD_0, ixD_1, ixD_2, ixD_3, ixD_4, ixD_5, ixD_6, ixD_7, ixD_8, ixD_9, ixD_10, ixD_11, ixD_12, ixD_13, ixD_14, ixD_15, ixD_16, ixD_17, ixD_18, ixD_19])
/-! ### rows -/
def rowD (l : List Rat) : D := .tuple (l.map frD)
def lstD (l : List Rat) : D := .list (l.map frD)
def topNe : D → Bool
  | .tuple (.int a :: _) => !decide (a = 0)
  | _ => false
def isRow : D → Bool
  | .tuple xs => xs.all isFr && (match xs.getLast? with
    | none => true
    | some d => topNe d)
  | _ => false
def R_is_row (py : Prop) : List D → Res → Prop := fun ds r => ∃ d, ds = [d] ∧ r = .ok (.bool (isRow d))
def R_need_rows (py : Prop) : List D → Res → Prop := fun ds r => ∃ xs, ds = [.list xs] ∧ r = if xs.all isRow = true then .ok .none else .err 1
def R_trimmed (py : Prop) : List D → Res → Prop := fun ds r => ∃ l, ds = [lstD l] ∧ r = .ok (rowD (trim l))
def R_add (py : Prop) : List D → Res → Prop := fun ds r => ∃ (p q : List Rat) (m n : Nat), ds = [rowD p, rowD q] ∧ Az m p ∧ Az n q ∧ 0 < m ∧ Lim py (m + n) ∧ p.length ≤ 1000 ∧ q.length ≤ 1000 ∧ r = .ok (rowD (trim (addL p q)))
def R_multiply (py : Prop) : List D → Res → Prop := fun ds r => ∃ (p q : List Rat) (m n : Nat), ds = [rowD p, rowD q] ∧ Sr m p ∧ Sr n q ∧ Lim py (2 * (m + n) + 20) ∧ p.length ≤ 1000 ∧ q.length ≤ 1000 ∧ r = .ok (rowD (trim (mulL p q)))
/-- the rate: each by its power -/
def slopeL (l : List Rat) : List Rat := (List.range' 1 (l.length - 1)).map fun i => l.getD i 0 * (i : Rat)
def R_slope (py : Prop) : List D → Res → Prop := fun ds r => ∃ (p : List Rat) (m : Nat), ds = [rowD p] ∧ Az m p ∧ Lim py (m + 20) ∧ p.length ≤ 1000 ∧ r = .ok (rowD (trim (slopeL p)))
def w_is_row (Ex : Nat → Prop) (py : Prop) : DS :=
  (wSeq (wIf (tNotD (tBl (eIsi .tuple (eVar 0))))
  (wRet (eC (.bool false)))
  wNext)
  (wSeq (wFor (iTupD (eVar 0)) (dName 1)
  (wIf (tNotD (tBl (eCall Ex (R_is_fraction py) (aCons (eVar 1) aNil))))
  (wRet (eC (.bool false)))
  wNext))
  (wRet (eOr (eOp dEq (eCB cLen (aCons (eVar 0) aNil)) (eC (.int 0))) (eOp dNe (eOp dIx (eOp dIx (eVar 0) (eNeg (eC (.int 1)))) (eC (.int 0))) (eC (.int 0)))))))

def w_need_rows (Ex : Nat → Prop) (py : Prop) : DS :=
  (wFor (iLst (eVar 0)) (dName 1)
  (wIf (tNotD (tBl (eCall Ex (R_is_row py) (aCons (eVar 1) aNil))))
  (wRaise Ex 1)
  wNext))

def w_trimmed (Ex : Nat → Prop) (py : Prop) : DS :=
  (wSeq (wSet 1 (eCB cLen (aCons (eVar 0) aNil)))
  (wSeq (wWhile (tAndD (tBl (eOp dGt (eVar 1) (eC (.int 0)))) (tBl (eOp dEq (eOp dIx (eOp dIx (eVar 0) (eOp dSub (eVar 1) (eC (.int 1)))) (eC (.int 0))) (eC (.int 0)))))
  (wSet 1 (eOp dSub (eVar 1) (eC (.int 1)))))
  (wRet (eCB cTuple (aCons (eSl (eVar 0) oNo (oSome (eVar 1))) aNil)))))

def w_add (Ex : Nat → Prop) (py : Prop) : DS :=
  (wSeq (wSetL 2 (lLst aNil))
  (wSeq (wFor (iR1 (aCons (eCB cMax (aCons (eCB cLen (aCons (eVar 0) aNil)) (aCons (eCB cLen (aCons (eVar 1) aNil)) aNil))) aNil)) (dName 3)
  (wSeq (wSet 4 (eC c_NONE))
  (wSeq (wIf (tBl (eOp dLt (eVar 3) (eCB cLen (aCons (eVar 0) aNil))))
  (wSet 4 (eOp dIx (eVar 0) (eVar 3)))
  wNext)
  (wSeq (wIf (tBl (eOp dLt (eVar 3) (eCB cLen (aCons (eVar 1) aNil))))
  (wSet 4 (eCall Ex (R_sum_of py) (aCons (eVar 4) (aCons (eOp dIx (eVar 1) (eVar 3)) aNil))))
  wNext)
  (wApp 2 (eVar 4))))))
  (wFrz 2 (wRet (eCall Ex (R_trimmed py) (aCons (eVar 2) aNil))))))

def w_multiply (Ex : Nat → Prop) (py : Prop) : DS :=
  (wSeq (wSetL 2 (lRep (eLst (aCons (eC c_NONE) aNil)) (eOp dAdd (eCB cLen (aCons (eVar 0) aNil)) (eCB cLen (aCons (eVar 1) aNil)))))
  (wSeq (wFor (iR1 (aCons (eCB cLen (aCons (eVar 0) aNil)) aNil)) (dName 3)
  (wFor (iR1 (aCons (eCB cLen (aCons (eVar 1) aNil)) aNil)) (dName 4)
  (wSetIx 2 (eOp dAdd (eVar 3) (eVar 4)) (eCall Ex (R_sum_of py) (aCons (eIxO 2 (eOp dAdd (eVar 3) (eVar 4))) (aCons (eCall Ex (R_product_of py) (aCons (eOp dIx (eVar 0) (eVar 3)) (aCons (eOp dIx (eVar 1) (eVar 4)) aNil))) aNil))))))
  (wFrz 2 (wRet (eCall Ex (R_trimmed py) (aCons (eVar 2) aNil))))))

def w_slope (Ex : Nat → Prop) (py : Prop) : DS :=
  (wRet (eCall Ex (R_trimmed py) (aCons (eL (lLc (iR2 (aCons (eC (.int 1)) (aCons (eCB cLen (aCons (eVar 0) aNil)) aNil))) [1] (dName 1) tYesD (eCall (fun _ => False) (R_product_of py) (aCons (eOp dIx (eVar 0) (eVar 1)) (aCons (eTup (aCons (eVar 1) (aCons (eC (.int 1)) aNil))) aNil))))) aNil)))

theorem tail_row {xs : List D} (h : ∀ (j : Nat) d, xs[j]? = some d → isFr d = true) : xs.all isFr = true := by
  rw [List.all_eq_true]
  intro d hd
  obtain ⟨j, hj⟩ := List.getElem?_of_mem hd
  exact h j d hj
theorem isFr_shape {d : D} (h : isFr d = true) : ∃ a b, d = .tuple [.int a, .int b] := by
  cases d with
  | tuple xs =>
    rcases xs with _ | ⟨x, _ | ⟨y, _ | ⟨z, l⟩⟩⟩
    · cases h
    · cases x <;> cases h
    · cases x with
      | int a => cases y with
        | int b => exact ⟨a, b, rfl⟩
        | _ => cases h
      | _ => cases h
    · cases x with
      | int a => cases y <;> cases h
      | _ => cases h
  | _ => cases h
theorem len_zero {n : Nat} : decide ((n : Int) = 0) = decide (n = 0) := decide_eq_decide.mpr (by omega)
theorem pure_is_row (py : Prop) (ds : List D) (r : Res) (h : R_is_row py ds r) : w_is_row (fun g => r = .err g) py (endsOf r) (startΓ ["thing", "part"] ds) := by
  obtain ⟨d, rfl, rfl⟩ := h
  unfold w_is_row
  refine seq_go fun nx hnx => ?_
  cases d with
  | tuple xs =>
    walk_at "dl"
    refine hnx _ ?_
    refine seq_go fun nx hnx => ?_
    show wForL _ _ _ xs _
    refine for_inv (fun (i : Nat) (Γ : Ct) => (∃ e, Γ = [.im (.tuple xs), e]) ∧ ∀ (j : Nat) d, j < i → xs[j]? = some d → isFr d = true) (fun i d nx' Γ hd hn' hI => ?_) (fun Γ hI => ?_) ⟨⟨_, rfl⟩, fun j _ hj => absurd hj (Nat.not_lt_zero _)⟩
    · obtain ⟨⟨e, rfl⟩, hI⟩ := hI
      walk_at "dl"
      refine call_ok ⟨_, rfl, rfl⟩ ?_
      cases hf : isFr d with
      | true =>
        refine hn' _ ⟨⟨_, rfl⟩, fun j d' hj hd' => ?_⟩
        by_cases h2 : j = i
        · subst h2
          rw [hd] at hd'
          cases hd'
          exact hf
        · exact hI j d' (by omega) hd'
      | false =>
        show Res.ok (PyData.bool (xs.all isFr && _)) = Res.ok (PyData.bool false)
        have : xs.all isFr = false := by
          rw [Bool.eq_false_iff]
          intro z
          rw [List.all_eq_true] at z
          rw [z d (List.mem_of_getElem? hd)] at hf
          cases hf
        rw [this, Bool.false_and]
    · obtain ⟨⟨e, rfl⟩, hI⟩ := hI
      have hall : xs.all isFr = true := tail_row fun j d hj => hI j d (List.getElem?_eq_some_iff.mp hj).1 hj
      refine hnx _ ?_
      rcases List.eq_nil_or_concat xs with rfl | ⟨p, a, rfl⟩
      · rfl
      · rw [List.concat_eq_append] at hall ⊢
        obtain ⟨b, c, hbc⟩ := isFr_shape (List.all_eq_true.mp hall a (List.mem_append_right _ (List.mem_singleton.mpr rfl)))
        walk_at "dl"
        rw [len_zero, decide_eq_false (by rw [List.length_append]; exact Nat.succ_ne_zero _)]
        show ixD (p ++ [a]) (-1) _
        rw [ixD_last, hbc]
        walk_at "dl"
        show Res.ok (PyData.bool ((p ++ [_]).all isFr && _)) = _
        rw [hbc] at hall
        rw [hall, List.getLast?_append]
        rfl
  | _ => rfl
theorem pure_need_rows (py : Prop) (ds : List D) (r : Res) (h : R_need_rows py ds r) : w_need_rows (fun g => r = .err g) py (endsOf r) (startΓ ["things", "thing"] ds) := by
  obtain ⟨xs, rfl, hr⟩ := h
  unfold w_need_rows
  show wForL _ _ _ xs _
  refine for_inv (fun (i : Nat) (Γ : Ct) => (∃ e, Γ = [.im (.list xs), e]) ∧ ∀ (j : Nat) d, j < i → xs[j]? = some d → isRow d = true) (fun i d nx' Γ hd hn' hI => ?_) (fun Γ hI => ?_) ⟨⟨_, rfl⟩, fun j _ hj => absurd hj (Nat.not_lt_zero _)⟩
  · obtain ⟨⟨e, rfl⟩, hI⟩ := hI
    walk_at "dl"
    refine call_ok ⟨_, rfl, rfl⟩ ?_
    cases hf : isRow d with
    | true =>
      refine hn' _ ⟨⟨_, rfl⟩, fun j d' hj hd' => ?_⟩
      by_cases h2 : j = i
      · subst h2
        rw [hd] at hd'
        cases hd'
        exact hf
      · exact hI j d' (by omega) hd'
    | false =>
      show r = .err 1
      rw [hr, if_neg]
      intro z
      rw [List.all_eq_true] at z
      rw [z d (List.mem_of_getElem? hd)] at hf
      cases hf
  · obtain ⟨⟨e, rfl⟩, hI⟩ := hI
    show r = .ok .none
    rw [hr, if_pos]
    rw [List.all_eq_true]
    intro d hd
    obtain ⟨j, hj⟩ := List.getElem?_of_mem hd
    exact hI j d (List.getElem?_eq_some_iff.mp hj).1 hj
theorem cutD_to (ds : List D) (k : Nat) (h : k ≤ ds.length) : cutD ds none (some ((k : Nat) : Int)) = ds.take k := by
  unfold cutD
  rw [HT.sIx_none, HT.sIx_nat, List.drop_zero, Nat.sub_zero, Nat.min_eq_left h]
theorem frD_zero {q : Rat} : decide (q.num = 0) = decide (q = 0) := decide_eq_decide.mpr Rat.num_eq_zero
theorem pure_trimmed (py : Prop) (ds : List D) (r : Res) (h : R_trimmed py ds r) : w_trimmed (fun g => r = .err g) py (endsOf r) (startΓ ["parts", "count"] ds) := by
  obtain ⟨l, rfl, rfl⟩ := h
  unfold w_trimmed
  refine seq_go fun nx hnx => ?_
  unfold lstD
  walk_at "dl"
  refine hnx _ ?_
  refine seq_go fun nx hnx => ?_
  refine wh_inv (fun (n : Nat) (Γ : Ct) => n ≤ l.length ∧ trim (l.take n) = trim l ∧ Γ = [.im (.list (l.map frD)), .im (.int (n : Int))]) (fun n nx' Γ hn' hI => ?_) (n := l.length) ⟨Nat.le_refl _, by rw [List.take_length], by rw [List.length_map]⟩
  obtain ⟨hn, ht, rfl⟩ := hI
  walk_at "dl"
  cases n with
  | zero =>
    refine hnx _ ?_
    walk_at "dl"
    show Res.ok _ = Res.ok (PyData.tuple (cutD _ none (some ((0 : Nat) : Int))))
    rw [cutD_to _ _ (Nat.zero_le _), List.take_zero, ← ht, List.take_zero]
    rfl
  | succ n =>
    have hl : n < l.length := hn
    have hd : (l.map frD)[n]? = some (frD l[n]) := by rw [List.getElem?_map, List.getElem?_eq_getElem hl]; rfl
    rw [decide_eq_true (show (0 : Int) < ((n + 1 : Nat) : Int) by omega)]
    refine ixD_at n (by omega) hd ?_
    unfold frD
    walk_at "dl"
    rw [frD_zero]
    have tk : l.take (n + 1) = l.take n ++ [l[n]] := by rw [List.take_succ, List.getElem?_eq_getElem hl]; rfl
    by_cases h0 : l[n] = 0
    · rw [decide_eq_true h0]
      refine hn' n _ (Nat.lt_succ_self _) ⟨by omega, ?_, ?_⟩
      · rw [← ht, tk, h0, trim_zero]
      · rw [show (((n + 1 : Nat) : Int) - 1) = (n : Int) by omega]; rfl
    · rw [decide_eq_false h0]
      refine hnx _ ?_
      walk_at "dl"
      show Res.ok _ = Res.ok (PyData.tuple (cutD _ none (some ((n + 1 : Nat) : Int))))
      rw [cutD_to _ _ (by rw [List.length_map]; omega), ← List.map_take, tk, ← ht, tk, trim_last _ _ h0]
      rfl
theorem addL_get (p q : List Rat) (i : Nat) : (addL p q)[i]? = match p[i]?, q[i]? with
    | some a, some b => some (a + b)
    | some a, none => some a
    | none, some b => some b
    | none, none => none := by
  induction p generalizing q i with
  | nil => rw [addL]; cases q[i]? <;> rfl
  | cons a p ih =>
    cases q with
    | nil => rw [addL]; cases (a :: p)[i]? <;> rfl
    | cons b q =>
      rw [addL]
      cases i with
      | zero => rfl
      | succ i => exact ih q i
theorem addL_length (p q : List Rat) : (addL p q).length = max p.length q.length := by
  induction p generalizing q with
  | nil => rw [addL, List.length_nil, Nat.zero_max]
  | cons a p ih =>
    cases q with
    | nil => rw [addL, List.length_nil, Nat.max_zero]
    | cons b q => rw [addL, List.length_cons, List.length_cons, List.length_cons, ih, Nat.succ_max_succ]
theorem max_len (m n : Nat) : (if ((n : Nat) : Int) > (m : Int) then (n : Int) else (m : Int)) = ((max m n : Nat) : Int) := by
  split <;> omega
theorem frD_0 : frD 0 = .tuple [.int 0, .int 1] := rfl
theorem sz_zero {m : Nat} (h : 0 < m) : Sz m 0 := ⟨Nat.two_pow_pos m, Nat.one_lt_two_pow (by omega)⟩
theorem map_get (l : List Rat) {i : Nat} {a : Rat} (h : l[i]? = some a) : (l.map frD)[i]? = some (frD a) := by rw [List.getElem?_map, h]; rfl
theorem pure_add (py : Prop) (ds : List D) (r : Res) (h : R_add py ds r) : w_add (fun g => r = .err g) py (endsOf r) (startΓ ["one", "other", "found", "k", "here"] ds) := by
  obtain ⟨p, q, m, n, rfl, hp, hq, h0, hl, lp, lq, rfl⟩ := h
  unfold w_add rowD
  refine seq_go fun nx hnx => ?_
  walk_at "dl"
  refine hnx _ ?_
  refine seq_go fun nx hnx => ?_
  unfold wFor iR1
  walk_at "dl"
  rw [List.length_map, List.length_map, max_len]
  refine ⟨inR_of (by omega) (by omega), ?_⟩
  rw [Int.toNat_natCast, ← addL_length]
  refine for_inv (fun (i : Nat) (Γ : Ct) => i ≤ (addL p q).length ∧ ∃ e1 e2, Γ = [.im (.tuple (p.map frD)), .im (.tuple (q.map frD)), .own (((addL p q).take i).map frD), e1, e2]) (fun i d nx' Γ hd hn' hI => ?_) (fun Γ hI => ?_) ⟨Nat.zero_le _, _, _, rfl⟩
  · obtain ⟨hi, e1, e2, rfl⟩ := hI
    obtain ⟨hi, rfl⟩ := rngD_at hd
    rw [Int.zero_add]
    refine seq_go fun nx2 hnx2 => ?_
    walk_at "dl"
    refine hnx2 _ ?_
    have len1 : ((addL p q).take i).length = i := by rw [List.length_take]; omega
    have hal : i < 100000 := by rw [addL_length] at hi; omega
    have hget := addL_get p q i
    rw [List.getElem?_eq_getElem hi] at hget
    -- here
    have key : ∀ a : Rat, (addL p q)[i] = a → (wApp 2 (eVar 4)) { nx := nx', rt := fun d => Res.ok (PyData.tuple ((trim (addL p q)).map frD)) = .ok d, ct := nx', bk := nx } [.im (.tuple (p.map frD)), .im (.tuple (q.map frD)), .own (((addL p q).take i).map frD), .im (.int i), .im (frD a)] := fun a ha => by
      walk_at "dl"
      refine ⟨by rw [List.length_map, len1]; exact line_lt (by omega), hn' _ ⟨hi, .im (.int i), .im (frD a), ?_⟩⟩
      rw [List.take_succ, List.getElem?_eq_getElem hi, ha, List.map_append]
      rfl
    refine seq_go fun nx3 hnx3 => ?_
    by_cases h1 : i < p.length
    · have g1 : p[i]? = some p[i] := List.getElem?_eq_getElem h1
      rw [g1] at hget
      walk_at "dl"
      rw [List.length_map, decide_eq_true (by omega)]
      refine ixD_at i rfl (map_get p g1) (hnx3 _ ?_)
      refine seq_go fun nx4 hnx4 => ?_
      by_cases h2 : i < q.length
      · have g2 : q[i]? = some q[i] := List.getElem?_eq_getElem h2
        rw [g2] at hget
        walk_at "dl"
        rw [List.length_map, decide_eq_true (by omega)]
        refine ixD_at i rfl (map_get q g2) ?_
        refine call_ok ⟨p[i], q[i], m, n, rfl, hp _ (List.getElem_mem h1), hq _ (List.getElem_mem h2), hl, rfl⟩ (hnx4 _ ?_)
        exact key _ (Option.some.inj hget)
      · have g2 : q[i]? = none := List.getElem?_eq_none_iff.mpr (by omega)
        rw [g2] at hget
        walk_at "dl"
        rw [List.length_map, decide_eq_false (by omega)]
        exact hnx4 _ (key _ (Option.some.inj hget))
    · have g1 : p[i]? = none := List.getElem?_eq_none_iff.mpr (by omega)
      rw [g1] at hget
      walk_at "dl"
      rw [List.length_map, decide_eq_false (by omega)]
      refine hnx3 _ ?_
      refine seq_go fun nx4 hnx4 => ?_
      have h2 : i < q.length := by rw [addL_length] at hi; omega
      have g2 : q[i]? = some q[i] := List.getElem?_eq_getElem h2
      rw [g2] at hget
      walk_at "dl"
      rw [List.length_map, decide_eq_true (by omega)]
      refine ixD_at i rfl (map_get q g2) ?_
      refine call_ok ⟨0, q[i], m, n, rfl, sz_zero h0, hq _ (List.getElem_mem h2), hl, rfl⟩ (hnx4 _ ?_)
      rw [Rat.zero_add]
      exact key _ (Option.some.inj hget)
  · obtain ⟨hi, e1, e2, rfl⟩ := hI
    refine hnx _ ?_
    rw [rngD_length, List.take_length]
    walk_at "dl"
    exact call_ok ⟨addL p q, rfl, rfl⟩ rfl
/-! the product -/
theorem ev_take (l : List Rat) {k : Nat} {a : Rat} (h : l[k]? = some a) (x : Rat) : ev (l.take (k + 1)) x = ev (l.take k) x + x ^ k * a := by
  have hk : k < l.length := (List.getElem?_eq_some_iff.mp h).1
  rw [List.take_succ, h, ev_append]
  show _ + x ^ (l.take k).length * ev [a] x = _
  rw [List.length_take, Nat.min_eq_left (by omega), ev_cons, ev_nil]
  grind
theorem rep_flat (n : Nat) : (List.replicate n [PyData.tuple [.int 0, .int 1]]).flatten = (List.replicate n (0 : Rat)).map frD := by
  induction n with
  | zero => rfl
  | succ n ih => rw [List.replicate_succ, List.replicate_succ, List.flatten_cons, ih, List.map_cons]; rfl
theorem set_map (l : List Rat) (i : Nat) (v : Rat) : (l.map frD).set i (frD v) = (l.set i v).map frD := by rw [List.map_set]
theorem Ce.set {E B : Nat} {l : List Rat} {i : Nat} {v : Rat} (h : Ce E B l) (hv : Ib B (v * E)) : Ce E B (l.set i v) := fun q hq => by
  rcases List.mem_or_eq_of_mem_set hq with h2 | rfl
  · exact h q h2
  · exact hv
theorem ixN_nat {n k : Nat} (h : k < n) : ixN n ((k : Nat) : Int) = some k := by
  unfold ixN
  rw [if_pos (Int.natCast_nonneg k), if_pos (by omega), Int.toNat_natCast]
theorem rat_pow_add (x : Rat) (j k : Nat) : x ^ (j + k) = x ^ j * x ^ k := by
  induction k with
  | zero => rw [Nat.add_zero, Rat.pow_zero, Rat.mul_one]
  | succ k ih => rw [← Nat.add_assoc, Rat.pow_succ, Rat.pow_succ, ih, Rat.mul_assoc]
theorem pure_multiply (py : Prop) (ds : List D) (r : Res) (h : R_multiply py ds r) : w_multiply (fun g => r = .err g) py (endsOf r) (startΓ ["one", "other", "found", "j", "k"] ds) := by
  obtain ⟨p, q, m, n, rfl, hp, hq, hl, lp, lq, rfl⟩ := h
  have azp := hp.az
  have azq := hq.az
  obtain ⟨E, B, e0, e1, e2, hp⟩ := hp
  obtain ⟨F, C, f0, f1, f2, hq⟩ := hq
  unfold w_multiply rowD
  refine seq_go fun nx hnx => ?_
  unfold lRep dRepL c_NONE
  walk_at "dl"
  rw [List.length_map, List.length_map, ← Int.natCast_add, Int.toNat_natCast, rep_flat]
  refine ⟨⟨by omega, by omega, line_le (by show 1 * _ ≤ _; omega)⟩, hnx _ ?_⟩
  refine seq_go fun nx hnx => ?_
  unfold wFor iR1
  walk_at "dl"
  rw [List.length_map]
  refine ⟨inR_of (by omega) (by omega), ?_⟩
  rw [Int.toNat_natCast]
  refine for_inv (fun (j : Nat) (Γ : Ct) => ∃ (f : List Rat) (e1 e2 : En), j ≤ p.length ∧ Γ = [.im (.tuple (p.map frD)), .im (.tuple (q.map frD)), .own (f.map frD), e1, e2] ∧ f.length = p.length + q.length ∧ Ce (E * F) (j * q.length * (B * C)) f ∧ ∀ x, ev f x = ev (p.take j) x * ev q x) (fun j d nx' Γ hd hn' hI => ?_) (fun Γ hI => ?_) ?_
  · obtain ⟨f, u1, u2, _, rfl, hf, hc, hv⟩ := hI
    obtain ⟨hj, rfl⟩ := rngD_at hd
    rw [Int.zero_add]
    have gj : p[j]? = some p[j] := List.getElem?_eq_getElem hj
    walk_at "dl"
    rw [List.length_map]
    refine ⟨inR_of (by omega) (by omega), ?_⟩
    rw [Int.toNat_natCast]
    refine for_inv (fun (k : Nat) (Γ : Ct) => ∃ (f : List Rat) (e2 : En), k ≤ q.length ∧ Γ = [.im (.tuple (p.map frD)), .im (.tuple (q.map frD)), .own (f.map frD), .im (.int j), e2] ∧ f.length = p.length + q.length ∧ Ce (E * F) ((j * q.length + k) * (B * C)) f ∧ ∀ x, ev f x = ev (p.take j) x * ev q x + x ^ j * p[j] * ev (q.take k) x) (fun k d nx2 Γ hd hn2 hI => ?_) (fun Γ hI => ?_) ?_
    · obtain ⟨f, u2, _, rfl, hf, hc, hv⟩ := hI
      obtain ⟨hk, rfl⟩ := rngD_at hd
      rw [Int.zero_add]
      have gk : q[k]? = some q[k] := List.getElem?_eq_getElem hk
      have hjk : j + k < f.length := by omega
      have gf : f[j + k]? = some f[j + k] := List.getElem?_eq_getElem hjk
      walk_at "dl"
      refine ixD_at (j + k) (by omega) (map_get f gf) ?_
      refine ixD_at j rfl (map_get p gj) ?_
      refine ixD_at k rfl (map_get q gk) ?_
      have sp := azp _ (List.getElem_mem hj)
      have sq := azq _ (List.getElem_mem hk)
      refine call_ok ⟨p[j], q[k], m, n, rfl, sp, sq, hl.low (by omega), rfl⟩ ?_
      have c1 := hc _ (List.getElem_mem hjk)
      have c2 : Ib (B * C) (p[j] * q[k] * ((E * F : Nat) : Rat)) := by
        have := (hp _ (List.getElem_mem hj)).mul (hq _ (List.getElem_mem hk))
        have e : p[j] * (E : Rat) * (q[k] * (F : Rat)) = p[j] * q[k] * ((E * F : Nat) : Rat) := by rw [Rat.natCast_mul]; grind
        rw [e] at this
        exact this
      have bEF := mul_bits e1 f1
      have bBC := mul_bits e2 f2
      have up1 : 2 ^ (m + n) ≤ 2 ^ (m + n + 20) := Nat.pow_le_pow_right (by decide) (Nat.le_add_right _ _)
      have cnt : j * q.length + k < 2 ^ 20 := by
        have : j * q.length ≤ 1000 * 1000 := Nat.mul_le_mul (by omega) (by omega)
        omega
      have s1 : Sz (m + n + 20) f[j + k] := by
        refine sz_of (Nat.mul_pos e0 f0) (by omega) ?_ c1
        rw [Nat.pow_add _ (m + n) 20, Nat.mul_comm]
        exact Nat.mul_lt_mul'' bBC cnt
      have s2 : Sz (m + n) (p[j] * q[k]) := sz_of (Nat.mul_pos e0 f0) bEF bBC c2
      refine call_ok ⟨f[j + k], p[j] * q[k], m + n + 20, m + n, rfl, s1, s2, hl.low (by omega), rfl⟩ ?_
      rw [List.length_map, show (j : Int) + (k : Int) = ((j + k : Nat) : Int) by omega, ixN_nat hjk]
      dsimp only
      rw [set_map]
      refine hn2 _ ⟨f.set (j + k) (f[j + k] + p[j] * q[k]), .im (.int k), hk, rfl, ?_, ?_, fun x => ?_⟩
      · rw [List.length_set]; exact hf
      · have e3 : (j * q.length + (k + 1)) * (B * C) = (j * q.length + k) * (B * C) + B * C := by rw [← Nat.add_assoc, Nat.succ_mul]
        rw [e3]
        refine Ce.set (hc.up (Nat.le_add_right _ _)) ?_
        have := c1.add c2
        have e : f[j + k] * ((E * F : Nat) : Rat) + p[j] * q[k] * ((E * F : Nat) : Rat) = (f[j + k] + p[j] * q[k]) * ((E * F : Nat) : Rat) := by grind
        rw [e] at this
        exact this
      · rw [ev_set _ _ _ _ hjk, hv, ev_take q gk]
        have e : x ^ (j + k) = x ^ j * x ^ k := rat_pow_add x j k
        rw [e]
        grind
    · obtain ⟨f, u2, _, rfl, hf, hc, hv⟩ := hI
      refine hn' _ ⟨f, _, _, hj, rfl, hf, ?_, fun x => ?_⟩
      · rw [rngD_length] at hc
        rw [Nat.succ_mul]
        exact hc
      · rw [hv, rngD_length, List.take_length, ev_take p gj]
        grind
    · exact ⟨f, u2, Nat.zero_le _, rfl, hf, hc, fun x => by rw [hv, List.take_zero, ev_nil]; grind⟩
  · obtain ⟨f, u1, u2, _, rfl, hf, hc, hv⟩ := hI
    refine hnx _ ?_
    walk_at "dl"
    refine call_ok ⟨f, rfl, rfl⟩ ?_
    have : trim f = trim (mulL p q) := trim_ext _ _ fun x => by rw [hv, rngD_length, List.take_length, ev_mul]
    rw [this]
    rfl
  · refine ⟨List.replicate (p.length + q.length) 0, _, _, Nat.zero_le _, rfl, List.length_replicate, ?_, fun x => ?_⟩
    · intro z hz
      rw [(List.mem_replicate.mp hz).2, Rat.zero_mul]
      exact .zero _
    · rw [ev_zeros, List.take_zero, ev_nil, Rat.zero_mul]
/-! the rate -/
theorem frD_nat (k : Nat) : frD (k : Rat) = .tuple [.int k, .int 1] := by
  show frD ((k : Int) : Rat) = _
  unfold frD
  rw [Rat.num_intCast, Rat.den_intCast]
  rfl
theorem sz_nat {k m : Nat} (h : k < 2 ^ m) (hm : 0 < m) : Sz m (k : Rat) := by
  show Sz m ((k : Int) : Rat)
  unfold Sz
  rw [Rat.num_intCast, Rat.den_intCast]
  exact ⟨by rw [Int.natAbs_natCast]; exact h, Nat.one_lt_two_pow (by omega)⟩
def slopeF (p : List Rat) : D → D
  | .int k => frD (p.getD k.toNat 0 * (k.toNat : Rat))
  | d => d
theorem slope_map (p : List Rat) : (rngD 1 (p.length - 1)).map (slopeF p) = (slopeL p).map frD := by
  unfold rngD slopeL
  rw [List.map_map, List.map_map, List.range'_eq_map_range, List.map_map]
  refine List.map_congr_left fun i _ => ?_
  show frD (p.getD ((1 : Int) + (i : Nat)).toNat 0 * (((1 : Int) + (i : Nat)).toNat : Rat)) = frD (p.getD (1 + i) 0 * ((1 + i : Nat) : Rat))
  rw [show ((1 : Int) + (i : Nat)).toNat = 1 + i by omega]
theorem getD_lt (l : List Rat) {i : Nat} (h : i < l.length) : l.getD i 0 = l[i] := by rw [List.getD_eq_getElem?_getD, List.getElem?_eq_getElem h]; rfl
theorem int_pred (n : Nat) : ((n : Int) - 1).toNat = n - 1 := by omega
theorem pure_slope (py : Prop) (ds : List D) (r : Res) (h : R_slope py ds r) : w_slope (fun g => r = .err g) py (endsOf r) (startΓ ["row", "k"] ds) := by
  obtain ⟨p, m, rfl, hp, hl, lp, rfl⟩ := h
  unfold w_slope rowD
  unfold lLc iR2
  walk_at "dl"
  rw [List.length_map]
  refine ⟨⟨inR_of (by omega) (by omega), inR_of (by omega) (by omega)⟩, rfl, ?_⟩
  rw [int_pred]
  refine lc_map (slopeF p) _ _ (fun d hd Q R hQ => ?_) (by rw [rngD_length]; exact line_le (by show 0 + (p.length - 1) ≤ _; omega)) ?_
  · obtain ⟨i, hi⟩ := List.getElem?_of_mem hd
    obtain ⟨hi, rfl⟩ := rngD_at hi
    unfold tYesD
    have lt : 1 + i < p.length := by omega
    show eOp dIx (eVar 0) (eVar 1) [.im (.tuple (p.map frD)), .im (.int (1 + (i : Nat)))] _
    walk_at "dl"
    refine ixD_at (1 + i) (by omega) (map_get p (List.getElem?_eq_getElem lt)) ?_
    refine call_ok ⟨p[1 + i], ((1 + i : Nat) : Rat), m, 20, ?_, hp _ (List.getElem_mem lt), sz_nat (by omega) (by decide), hl, rfl⟩ ?_
    · rw [frD_nat, show ((1 + i : Nat) : Int) = 1 + (i : Int) by omega]
    · have e : slopeF p (.int (1 + (i : Nat))) = frD (p[1 + i] * ((1 + i : Nat) : Rat)) := by
        show frD (p.getD ((1 : Int) + (i : Nat)).toNat 0 * (((1 : Int) + (i : Nat)).toNat : Rat)) = _
        rw [show ((1 : Int) + (i : Nat)).toNat = 1 + i by omega, getD_lt p lt]
      rw [e] at hQ
      exact hQ
  · rw [List.nil_append, slope_map]
    exact call_ok ⟨slopeL p, rfl, rfl⟩ rfl
/-! rows of the program's own shape -/
theorem isRow_rowD {l : List Rat} (h : IsRow l) : isRow (rowD l) = true := by
  unfold rowD isRow
  rw [Bool.and_eq_true]
  refine ⟨?_, ?_⟩
  · rw [List.all_map, List.all_eq_true]
    intro q _
    exact isFr_frD q
  · rcases snoc_cases l with rfl | ⟨p, a, rfl⟩
    · rfl
    · have ha := snoc_row h
      rw [List.map_append, List.getLast?_append]
      show (!decide (a.num = 0)) = true
      rw [frD_zero, decide_eq_false ha]
      rfl
theorem isRow_zero (l : List Rat) : isRow (.tuple (l.map frD ++ [frD 0])) = false := by
  show ((l.map frD ++ [frD 0]).all isFr && (match (l.map frD ++ [frD 0]).getLast? with
    | none => true
    | some d => topNe d)) = false
  rw [List.getLast?_append]
  exact Bool.and_false _
def R_plus (py : Prop) : List D → Res → Prop := fun ds r => ∃ d e, ds = [d, e] ∧ (((isRow d && isRow e) = false ∧ r = .err 1) ∨ ∃ (p q : List Rat) (m n : Nat), d = rowD p ∧ e = rowD q ∧ IsRow p ∧ IsRow q ∧ Az m p ∧ Az n q ∧ 0 < m ∧ Lim py (m + n) ∧ p.length ≤ 1000 ∧ q.length ≤ 1000 ∧ r = .ok (rowD (trim (addL p q))))
def R_times (py : Prop) : List D → Res → Prop := fun ds r => ∃ d e, ds = [d, e] ∧ (((isRow d && isRow e) = false ∧ r = .err 1) ∨ ∃ (p q : List Rat) (m n : Nat), d = rowD p ∧ e = rowD q ∧ IsRow p ∧ IsRow q ∧ Sr m p ∧ Sr n q ∧ Lim py (2 * (m + n) + 20) ∧ p.length ≤ 1000 ∧ q.length ≤ 1000 ∧ r = .ok (rowD (trim (mulL p q))))
def R_rate (py : Prop) : List D → Res → Prop := fun ds r => ∃ d, ds = [d] ∧ ((isRow d = false ∧ r = .err 1) ∨ ∃ (p : List Rat) (m : Nat), d = rowD p ∧ IsRow p ∧ Az m p ∧ Lim py (m + 20) ∧ p.length ≤ 1000 ∧ r = .ok (rowD (trim (slopeL p))))
def w_plus (Ex : Nat → Prop) (py : Prop) : DS :=
  (wSeq (wExpr (eCall Ex (R_need_rows py) (aCons (eLst (aCons (eVar 0) (aCons (eVar 1) aNil))) aNil)))
  (wRet (eCall Ex (R_add py) (aCons (eVar 0) (aCons (eVar 1) aNil)))))

def w_times (Ex : Nat → Prop) (py : Prop) : DS :=
  (wSeq (wExpr (eCall Ex (R_need_rows py) (aCons (eLst (aCons (eVar 0) (aCons (eVar 1) aNil))) aNil)))
  (wRet (eCall Ex (R_multiply py) (aCons (eVar 0) (aCons (eVar 1) aNil)))))

def w_rate (Ex : Nat → Prop) (py : Prop) : DS :=
  (wSeq (wExpr (eCall Ex (R_need_rows py) (aCons (eLst (aCons (eVar 0) aNil)) aNil)))
  (wRet (eCall Ex (R_slope py) (aCons (eVar 0) aNil))))

theorem need_two {d e : D} : [d, e].all isRow = (isRow d && isRow e) := by rw [List.all_cons, List.all_cons, List.all_nil, Bool.and_true]
theorem call_err {Ex : Nat → Prop} {R : List D → Res → Prop} {ds : List D} {P : D → Prop} (g : Nat) (hR : R ds (.err g)) (h : Ex g) : ∃ r, R ds r ∧ match r with
  | .ok d => P d
  | .err g => Ex g := ⟨.err g, hR, h⟩
theorem pure_plus (py : Prop) (ds : List D) (r : Res) (h : R_plus py ds r) : w_plus (fun g => r = .err g) py (endsOf r) (startΓ ["one", "other"] ds) := by
  obtain ⟨d, e, rfl, h⟩ := h
  unfold w_plus
  refine seq_go fun nx hnx => ?_
  walk_at "dl"
  rcases h with ⟨h1, rfl⟩ | ⟨p, q, m, n, rfl, rfl, r1, r2, h1, h2, h3, h4, h5, h6, rfl⟩
  · exact call_err 1 ⟨_, rfl, by rw [need_two, h1]; rfl⟩ rfl
  · refine call_ok ⟨_, rfl, by rw [need_two, isRow_rowD r1, isRow_rowD r2]; rfl⟩ (hnx _ ?_)
    walk_at "dl"
    exact call_ok ⟨p, q, m, n, rfl, h1, h2, h3, h4, h5, h6, rfl⟩ rfl
theorem pure_times (py : Prop) (ds : List D) (r : Res) (h : R_times py ds r) : w_times (fun g => r = .err g) py (endsOf r) (startΓ ["one", "other"] ds) := by
  obtain ⟨d, e, rfl, h⟩ := h
  unfold w_times
  refine seq_go fun nx hnx => ?_
  walk_at "dl"
  rcases h with ⟨h1, rfl⟩ | ⟨p, q, m, n, rfl, rfl, r1, r2, h1, h2, h3, h5, h6, rfl⟩
  · exact call_err 1 ⟨_, rfl, by rw [need_two, h1]; rfl⟩ rfl
  · refine call_ok ⟨_, rfl, by rw [need_two, isRow_rowD r1, isRow_rowD r2]; rfl⟩ (hnx _ ?_)
    walk_at "dl"
    exact call_ok ⟨p, q, m, n, rfl, h1, h2, h3, h5, h6, rfl⟩ rfl
theorem pure_rate (py : Prop) (ds : List D) (r : Res) (h : R_rate py ds r) : w_rate (fun g => r = .err g) py (endsOf r) (startΓ ["row"] ds) := by
  obtain ⟨d, rfl, h⟩ := h
  unfold w_rate
  refine seq_go fun nx hnx => ?_
  walk_at "dl"
  have one : [d].all isRow = isRow d := by rw [List.all_cons, List.all_nil, Bool.and_true]
  rcases h with ⟨h1, rfl⟩ | ⟨p, m, rfl, r1, h1, h4, h5, rfl⟩
  · exact call_err 1 ⟨_, rfl, by rw [one, h1]; rfl⟩ rfl
  · refine call_ok ⟨_, rfl, by rw [one, isRow_rowD r1]; rfl⟩ (hnx _ ?_)
    walk_at "dl"
    exact call_ok ⟨p, m, rfl, h1, h4, h5, rfl⟩ rfl
end DL

set_option linter.all false
set_option autoImplicit false
set_option maxRecDepth 10000
set_option maxHeartbeats 400000
namespace DL
open PySem PySem.Spec L2
local macro_rules | `(tactic| walk_at "dl") => `(tactic| simp -implicitDefEqProofs only [wSeq, wNext, wSet, wSetL, wAsg, wPar, parD, wRet, wExpr, wApp, wSetIx, wIf, wFrz, wRaise, wBreak, wCont, eVar, eC, eOp, tBl, dI, dB, dAdd, dSub, dMul, dFdiv, dMod, dPow, eNeg, dLt, dLe, dGt, dGe, dEq, dNe, dIs, dIsNot, eAnd, eOr, eNot, tAndD, tOrD, tNotD,
  aNil, aCons, eTup, eLst, lLst, eL, dIx, eSl, dSl, oNo, oSome, eCB, cLen, cAbs, cMax, cMin, cTuple, cList, cInt, eIsi, isiD, dName, dTupT, dCons, dNil, eCell, cellP, eIxO, eLenO, eCall, startΓ, startS, List.getElem?_cons_zero, List.getElem?_cons_succ, List.set, List.map, List.length, List.replicate, List.append, List.cons_append, List.nil_append, Nat.sub_self, Nat.reduceAdd, Nat.reduceSub, true_and, ixD_0, ixD_1, ixD_2, ixD_3, ixD_4, ixD_5, ixD_6, ixD_7, ixD_8, ixD_9, ixD_10, ixD_11, ixD_12, ixD_13, ixD_14, ixD_15, ixD_16, ixD_17, ixD_18, ixD_19])
/-! ### the law's own rows -/
/-- a comprehension in which all are kept, by its results -/
theorem lc_get {Γ0 : Ct} {g : DG} {t : DT} {e : DE} {P : List D → Prop} : ∀ (ds ys acc : List D), ds.length = ys.length → (∀ (i : Nat) (d y : D), ds[i]? = some d → ys[i]? = some y → ∀ (Q : D → Prop) (R : Prop), Q y → g d Γ0 fun Γ' => t Γ' fun c => match c with
      | true => e Γ' Q
      | false => R) → acc.length + ds.length ≤ sizeLine → P (acc ++ ys) → wLc Γ0 g t e P ds acc
  | [], ys, acc, hl, _, _, h => by
    rw [List.length_eq_zero_iff.mp hl.symm, List.append_nil] at h
    exact h
  | d :: r, [], acc, hl, _, _, h => nomatch hl
  | d :: r, y :: ys, acc, hl, hd, hz, h => by
    rw [wLc]
    have hl2 : acc.length + r.length + 1 ≤ sizeLine := hz
    refine hd 0 d y rfl rfl _ _ ⟨by omega, ?_⟩
    refine lc_get r ys (acc ++ [y]) (Nat.succ.inj hl) (fun i d' y' h1 h2 => hd (i + 1) d' y' h1 h2) (by rw [List.length_append]; show _ + 1 + _ ≤ _; omega) ?_
    rw [List.append_assoc]
    exact h
abbrev R__law_is_row := R_is_row
abbrev R__law_sum := R_sum_of
abbrev R__law_product := R_product_of
def R__law_trim (py : Prop) : List D → Res → Prop := fun ds r => ∃ l : List Rat, (ds = [lstD l] ∨ ds = [rowD l]) ∧ r = .ok (rowD (trim l))
def R__law_plus (py : Prop) : List D → Res → Prop := fun ds r => ∃ (p q : List Rat) (m n : Nat), ds = [rowD p, rowD q] ∧ Az m p ∧ Az n q ∧ 0 < m ∧ 0 < n ∧ Lim py (m + n) ∧ p.length ≤ 1000 ∧ q.length ≤ 1000 ∧ r = .ok (rowD (trim (addL p q)))
def R__law_scale (py : Prop) : List D → Res → Prop := fun ds r => ∃ (p : List Rat) (c : Rat) (m n : Nat), ds = [rowD p, frD c] ∧ Az m p ∧ Sz n c ∧ Lim py (m + n) ∧ p.length ≤ 1000 ∧ r = .ok (rowD (trim (sclL c p)))
def R__law_times (py : Prop) : List D → Res → Prop := fun ds r => ∃ (p q : List Rat) (m n : Nat), ds = [rowD p, rowD q] ∧ Sr m p ∧ Sr n q ∧ Lim py (2 * (m + n) + 20) ∧ p.length ≤ 400 ∧ q.length ≤ 400 ∧ r = .ok (rowD (trim (mulL p q)))
abbrev R__law_rate := R_slope
def w__law_is_row (Ex : Nat → Prop) (py : Prop) : DS :=
  (wSeq (wIf (tNotD (tBl (eIsi .tuple (eVar 0))))
  (wRet (eC (.bool false)))
  wNext)
  (wSeq (wFor (iTupD (eVar 0)) (dName 1)
  (wIf (tNotD (tBl (eCall Ex (R__law_is_fraction py) (aCons (eVar 1) aNil))))
  (wRet (eC (.bool false)))
  wNext))
  (wRet (eOr (eOp dEq (eCB cLen (aCons (eVar 0) aNil)) (eC (.int 0))) (eOp dNe (eOp dIx (eOp dIx (eVar 0) (eNeg (eC (.int 1)))) (eC (.int 0))) (eC (.int 0)))))))

def w__law_sum (Ex : Nat → Prop) (py : Prop) : DS :=
  (wRet (eCall Ex (R__law_fraction py) (aCons (eOp dAdd (eOp dMul (eOp dIx (eVar 0) (eC (.int 0))) (eOp dIx (eVar 1) (eC (.int 1)))) (eOp dMul (eOp dIx (eVar 1) (eC (.int 0))) (eOp dIx (eVar 0) (eC (.int 1))))) (aCons (eOp dMul (eOp dIx (eVar 0) (eC (.int 1))) (eOp dIx (eVar 1) (eC (.int 1)))) aNil))))

def w__law_product (Ex : Nat → Prop) (py : Prop) : DS :=
  (wRet (eCall Ex (R__law_fraction py) (aCons (eOp dMul (eOp dIx (eVar 0) (eC (.int 0))) (eOp dIx (eVar 1) (eC (.int 0)))) (aCons (eOp dMul (eOp dIx (eVar 0) (eC (.int 1))) (eOp dIx (eVar 1) (eC (.int 1)))) aNil))))

def w__law_trim (Ex : Nat → Prop) (py : Prop) : DS :=
  (wSeq (wWhile (tAndD (tBl (eOp dGt (eCB cLen (aCons (eVar 0) aNil)) (eC (.int 0)))) (tBl (eOp dEq (eOp dIx (eOp dIx (eVar 0) (eNeg (eC (.int 1)))) (eC (.int 0))) (eC (.int 0)))))
  (wSet 0 (eSl (eVar 0) oNo (oSome (eNeg (eC (.int 1)))))))
  (wRet (eCB cTuple (aCons (eVar 0) aNil))))

def w__law_plus (Ex : Nat → Prop) (py : Prop) : DS :=
  (wSeq (wSet 2 (eCB cMax (aCons (eCB cLen (aCons (eVar 0) aNil)) (aCons (eCB cLen (aCons (eVar 1) aNil)) aNil))))
  (wSeq (wSet 0 (eOp dAdd (eCB cList (aCons (eVar 0) aNil)) (eOp dMul (eLst (aCons (eTup (aCons (eC (.int 0)) (aCons (eC (.int 1)) aNil))) aNil)) (eOp dSub (eVar 2) (eCB cLen (aCons (eVar 0) aNil))))))
  (wSeq (wSet 1 (eOp dAdd (eCB cList (aCons (eVar 1) aNil)) (eOp dMul (eLst (aCons (eTup (aCons (eC (.int 0)) (aCons (eC (.int 1)) aNil))) aNil)) (eOp dSub (eVar 2) (eCB cLen (aCons (eVar 1) aNil))))))
  (wRet (eCall Ex (R__law_trim py) (aCons (eL (lLc (iZp (aCons (eVar 0) (aCons (eVar 1) aNil))) [3, 4] (dTupT (dCons (dName 3) (dCons (dName 4) dNil))) tYesD (eCall (fun _ => False) (R__law_sum py) (aCons (eVar 3) (aCons (eVar 4) aNil))))) aNil))))))

def w__law_scale (Ex : Nat → Prop) (py : Prop) : DS :=
  (wRet (eCall Ex (R__law_trim py) (aCons (eL (lLc (iTupD (eVar 0)) [2] (dName 2) tYesD (eCall (fun _ => False) (R__law_product py) (aCons (eVar 2) (aCons (eVar 1) aNil))))) aNil)))

def w__law_times (Ex : Nat → Prop) (py : Prop) : DS :=
  (wSeq (wSet 2 (eTup aNil))
  (wSeq (wFor (iR1 (aCons (eCB cLen (aCons (eVar 0) aNil)) aNil)) (dName 3)
  (wSet 2 (eCall Ex (R__law_plus py) (aCons (eVar 2) (aCons (eOp dAdd (eOp dMulT (eTup (aCons (eTup (aCons (eC (.int 0)) (aCons (eC (.int 1)) aNil))) aNil)) (eVar 3)) (eCall Ex (R__law_scale py) (aCons (eVar 1) (aCons (eOp dIx (eVar 0) (eVar 3)) aNil)))) aNil)))))
  (wRet (eVar 2))))

def w__law_rate (Ex : Nat → Prop) (py : Prop) : DS :=
  (wRet (eCall Ex (R__law_trim py) (aCons (eL (lLc (iR2 (aCons (eC (.int 1)) (aCons (eCB cLen (aCons (eVar 0) aNil)) aNil))) [1] (dName 1) tYesD (eCall (fun _ => False) (R__law_product py) (aCons (eOp dIx (eVar 0) (eVar 1)) (aCons (eTup (aCons (eVar 1) (aCons (eC (.int 1)) aNil))) aNil))))) aNil)))

theorem pure__law_is_row (py : Prop) (ds : List D) (r : Res) (h : R__law_is_row py ds r) : w__law_is_row (fun g => r = .err g) py (endsOf r) (startΓ ["_law_found", "_law_part"] ds) := pure_is_row py ds r h
theorem pure__law_sum (py : Prop) (ds : List D) (r : Res) (h : R__law_sum py ds r) : w__law_sum (fun g => r = .err g) py (endsOf r) (startΓ ["_law_one", "_law_other"] ds) := by
  obtain ⟨p, q, m, n, rfl, hp, hq, hl, rfl⟩ := h
  unfold w__law_sum frD
  walk_at "dl"
  refine ⟨mulx_of hp.1 hq.dn hl.1, mulx_of hq.1 hp.dn (by have := hl.1; omega), mulx_of hp.dn hq.dn hl.1, ?_⟩
  refine call_ok ⟨_, _, rfl, log_mul hp.dn hq.dn py hl.2, den_ne p q, rfl⟩ ?_
  rw [rat_sum]
  rfl
theorem pure__law_product (py : Prop) (ds : List D) (r : Res) (h : R__law_product py ds r) : w__law_product (fun g => r = .err g) py (endsOf r) (startΓ ["_law_one", "_law_other"] ds) := by
  obtain ⟨p, q, m, n, rfl, hp, hq, hl, rfl⟩ := h
  unfold w__law_product frD
  walk_at "dl"
  refine ⟨mulx_of hp.1 hq.1 hl.1, mulx_of hp.dn hq.dn hl.1, ?_⟩
  refine call_ok ⟨_, _, rfl, log_mul hp.dn hq.dn py hl.2, den_ne p q, rfl⟩ ?_
  rw [rat_prod]
  rfl
theorem cutD_but (ds : List D) (d : D) : cutD (ds ++ [d]) none (some (-1)) = ds := by
  unfold cutD
  have e : HT.sIx (ds ++ [d]).length (ds ++ [d]).length (some (-1)) = ds.length := by
    unfold HT.sIx
    have hl : (ds ++ [d]).length = ds.length + 1 := by rw [List.length_append]; rfl
    rw [hl]
    simp only []
    first
      | omega
      | (repeat' split) <;> omega
  rw [HT.sIx_none, e, List.drop_zero, Nat.sub_zero, List.take_left' rfl]
theorem pure__law_trimL (py : Prop) (l : List Rat) : w__law_trim (fun g => Res.ok (rowD (trim l)) = .err g) py (endsOf (Res.ok (rowD (trim l)))) (startΓ ["_law_row"] [lstD l]) := by
  unfold w__law_trim
  refine seq_go fun nx hnx => ?_
  refine wh_inv (fun (n : Nat) (Γ : Ct) => ∃ p : List Rat, p.length = n ∧ trim p = trim l ∧ Γ = [.im (lstD p)]) (fun n nx' Γ hn' hI => ?_) (n := l.length) ⟨l, rfl, rfl, rfl⟩
  obtain ⟨p, rfl, ht, rfl⟩ := hI
  unfold lstD
  walk_at "dl"
  rcases snoc_cases p with rfl | ⟨p, a, rfl⟩
  · refine hnx _ ?_
    walk_at "dl"
    show Res.ok _ = Res.ok (rowD [])
    rw [← ht]
    rfl
  · rw [decide_eq_true (show (0 : Int) < (((p ++ [a]).map frD).length : Nat) by rw [List.length_map, List.length_append]; show (0 : Int) < ((p.length + 1 : Nat) : Int); omega), List.map_append]
    show ixD (p.map frD ++ [frD a]) (-1) _
    rw [ixD_last]
    unfold frD
    walk_at "dl"
    rw [frD_zero]
    by_cases h0 : a = 0
    · rw [decide_eq_true h0]
      subst h0
      rw [trim_zero] at ht
      refine hn' p.length _ (by rw [List.length_append]; exact Nat.lt_succ_self _) ⟨p, rfl, ht, ?_⟩
      show [En.im (PyData.list (cutD (p.map frD ++ [frD 0]) none (some (-1))))] = _
      rw [cutD_but]
      rfl
    · rw [decide_eq_false h0]
      refine hnx _ ?_
      walk_at "dl"
      rw [trim_last _ _ h0] at ht
      rw [← ht]
      show Res.ok (rowD _) = Res.ok (PyData.tuple (p.map frD ++ [frD a]))
      unfold rowD
      rw [List.map_append]
      rfl
theorem pure__law_trimT (py : Prop) (l : List Rat) : w__law_trim (fun g => Res.ok (rowD (trim l)) = .err g) py (endsOf (Res.ok (rowD (trim l)))) (startΓ ["_law_row"] [rowD l]) := by
  unfold w__law_trim
  refine seq_go fun nx hnx => ?_
  refine wh_inv (fun (n : Nat) (Γ : Ct) => ∃ p : List Rat, p.length = n ∧ trim p = trim l ∧ Γ = [.im (rowD p)]) (fun n nx' Γ hn' hI => ?_) (n := l.length) ⟨l, rfl, rfl, rfl⟩
  obtain ⟨p, rfl, ht, rfl⟩ := hI
  unfold rowD
  walk_at "dl"
  rcases snoc_cases p with rfl | ⟨p, a, rfl⟩
  · refine hnx _ ?_
    walk_at "dl"
    show Res.ok _ = Res.ok (rowD [])
    rw [← ht]
    rfl
  · rw [decide_eq_true (show (0 : Int) < (((p ++ [a]).map frD).length : Nat) by rw [List.length_map, List.length_append]; show (0 : Int) < ((p.length + 1 : Nat) : Int); omega), List.map_append]
    show ixD (p.map frD ++ [frD a]) (-1) _
    rw [ixD_last]
    unfold frD
    walk_at "dl"
    rw [frD_zero]
    by_cases h0 : a = 0
    · rw [decide_eq_true h0]
      subst h0
      rw [trim_zero] at ht
      refine hn' p.length _ (by rw [List.length_append]; exact Nat.lt_succ_self _) ⟨p, rfl, ht, ?_⟩
      show [En.im (PyData.tuple (cutD (p.map frD ++ [frD 0]) none (some (-1))))] = _
      rw [cutD_but]
      rfl
    · rw [decide_eq_false h0]
      refine hnx _ ?_
      walk_at "dl"
      rw [trim_last _ _ h0] at ht
      rw [← ht]
      show Res.ok (rowD _) = Res.ok (PyData.tuple (p.map frD ++ [frD a]))
      unfold rowD
      rw [List.map_append]
      rfl
theorem pure__law_trim (py : Prop) (ds : List D) (r : Res) (h : R__law_trim py ds r) : w__law_trim (fun g => r = .err g) py (endsOf r) (startΓ ["_law_row"] ds) := by
  obtain ⟨l, h | h, hr⟩ := h
  · subst h; subst hr
    exact pure__law_trimL py l
  · subst h; subst hr
    exact pure__law_trimT py l
theorem pad_get (p : List Rat) {k i : Nat} (h : i < p.length + k) : (p ++ List.replicate k 0)[i]? = some (p.getD i 0) := by
  rw [List.getD_eq_getElem?_getD]
  by_cases h1 : i < p.length
  · rw [List.getElem?_append_left h1, List.getElem?_eq_getElem h1]; rfl
  · rw [List.getElem?_append_right (by omega), List.getElem?_eq_none (l := p) (by omega), List.getElem?_replicate, if_pos (by omega)]; rfl
theorem addL_getD (p q : List Rat) {i : Nat} (h : i < (addL p q).length) : (addL p q)[i]? = some (p.getD i 0 + q.getD i 0) := by
  rw [addL_length] at h
  rw [addL_get, List.getD_eq_getElem?_getD, List.getD_eq_getElem?_getD]
  cases e1 : p[i]? with
  | some a => cases e2 : q[i]? with
    | some b => rfl
    | none => show some a = some (a + 0); rw [Rat.add_zero]
  | none => cases e2 : q[i]? with
    | some b => show some b = some (0 + b); rw [Rat.zero_add]
    | none =>
      have := List.getElem?_eq_none_iff.mp e1
      have := List.getElem?_eq_none_iff.mp e2
      omega
theorem az_getD {m : Nat} {p : List Rat} (h : Az m p) (hm : 0 < m) (i : Nat) : Sz m (p.getD i 0) := by
  rw [List.getD_eq_getElem?_getD]
  cases e : p[i]? with
  | some a => exact h a (List.mem_of_getElem? e)
  | none => exact sz_zero hm
theorem pad_map (p : List Rat) (k : Nat) : p.map frD ++ (List.replicate k [PyData.tuple [.int 0, .int 1]]).flatten = (p ++ List.replicate k 0).map frD := by
  rw [rep_flat, List.map_append]
theorem pad_toNat (m n : Nat) : (((max m n : Nat) : Int) - (m : Int)).toNat = max m n - m := by omega
theorem pad_toNat' (m n : Nat) : (((max m n : Nat) : Int) - (n : Int)).toNat = max m n - n := by omega
theorem zipW_at {xs ys : List D} {i : Nat} {x y d : D} (hx : xs[i]? = some x) (hy : ys[i]? = some y) (h : (List.zipWith (fun x y => PyData.tuple [x, y]) xs ys)[i]? = some d) : d = .tuple [x, y] := by
  rw [List.getElem?_zipWith, hx, hy] at h
  exact (Option.some.inj h).symm
theorem pure__law_plus (py : Prop) (ds : List D) (r : Res) (h : R__law_plus py ds r) : w__law_plus (fun g => r = .err g) py (endsOf r) (startΓ ["_law_one", "_law_other", "_law_size", "_law_x", "_law_y"] ds) := by
  obtain ⟨p, q, m, n, rfl, hp, hq, h0, h1, hl, lp, lq, rfl⟩ := h
  unfold w__law_plus rowD
  refine seq_go fun nx hnx => ?_
  walk_at "dl"
  rw [List.length_map, List.length_map, max_len]
  refine hnx _ ?_
  refine seq_go fun nx hnx => ?_
  walk_at "dl"
  rw [List.length_map, pad_toNat, pad_map]
  refine ⟨⟨by omega, by omega, line_le (by show 1 * _ ≤ _; omega)⟩, line_le (by rw [rep_flat, List.length_map, List.length_replicate]; omega), hnx _ ?_⟩
  refine seq_go fun nx hnx => ?_
  walk_at "dl"
  rw [List.length_map, pad_toNat', pad_map]
  refine ⟨⟨by omega, by omega, line_le (by show 1 * _ ≤ _; omega)⟩, line_le (by rw [rep_flat, List.length_map, List.length_replicate]; omega), hnx _ ?_⟩
  unfold lLc iZp
  walk_at "dl"
  have l1 : (p ++ List.replicate (max p.length q.length - p.length) 0).length = max p.length q.length := by rw [List.length_append, List.length_replicate]; omega
  have l2 : (q ++ List.replicate (max p.length q.length - q.length) 0).length = max p.length q.length := by rw [List.length_append, List.length_replicate]; omega
  refine ⟨by rw [List.length_map, List.length_map, l1, l2], rfl, ?_⟩
  have lz : (List.zipWith (fun x y => PyData.tuple [x, y]) ((p ++ List.replicate (max p.length q.length - p.length) 0).map frD) ((q ++ List.replicate (max p.length q.length - q.length) 0).map frD)).length = max p.length q.length := by
    rw [List.length_zipWith, List.length_map, List.length_map, l1, l2, Nat.min_self]
  refine lc_get _ ((addL p q).map frD) [] (by rw [lz, List.length_map, addL_length]) (fun i d y hd hy Q R hQ => ?_) (by rw [lz]; exact line_le (by show 0 + max p.length q.length ≤ _; omega)) ?_
  · have hi : i < (addL p q).length := by
      have := (List.getElem?_eq_some_iff.mp hd).1
      rw [lz] at this
      rw [addL_length]
      exact this
    rw [map_get _ (addL_getD p q hi)] at hy
    cases hy
    rw [addL_length] at hi
    have e := zipW_at (map_get _ (pad_get p (k := max p.length q.length - p.length) (by omega))) (map_get _ (pad_get q (k := max p.length q.length - q.length) (by omega))) hd
    subst e
    unfold tYesD
    walk_at "dl"
    exact call_ok ⟨_, _, m, n, rfl, az_getD hp h0 i, az_getD hq h1 i, hl, rfl⟩ hQ
  · rw [List.nil_append]
    exact call_ok ⟨addL p q, .inl rfl, rfl⟩ rfl
theorem pure__law_scale (py : Prop) (ds : List D) (r : Res) (h : R__law_scale py ds r) : w__law_scale (fun g => r = .err g) py (endsOf r) (startΓ ["_law_row", "_law_number_here", "_law_part"] ds) := by
  obtain ⟨p, c, m, n, rfl, hp, hc, hl, lp, rfl⟩ := h
  unfold w__law_scale rowD
  unfold lLc iTupD
  walk_at "dl"
  refine ⟨rfl, ?_⟩
  refine lc_get _ ((sclL c p).map frD) [] (by rw [List.length_map, List.length_map]; unfold sclL; rw [List.length_map]) (fun i d y hd hy Q R hQ => ?_) (by rw [List.length_map]; exact line_le (by show 0 + p.length ≤ _; omega)) ?_
  · rw [List.getElem?_map] at hd
    obtain ⟨a, ha, rfl⟩ := Option.map_eq_some_iff.mp hd
    have e : (sclL c p)[i]? = some (a * c) := by unfold sclL; rw [List.getElem?_map, ha]; rfl
    rw [map_get _ e] at hy
    cases hy
    unfold tYesD
    show eCall _ _ (aCons (eVar 2) (aCons (eVar 1) aNil)) [.im (.tuple (p.map frD)), .im (frD c), .im (frD a)] Q
    walk_at "dl"
    exact call_ok ⟨a, c, m, n, rfl, hp a (List.mem_of_getElem? ha), hc, hl, rfl⟩ hQ
  · rw [List.nil_append]
    exact call_ok ⟨sclL c p, .inl rfl, rfl⟩ rfl
theorem pure__law_rate (py : Prop) (ds : List D) (r : Res) (h : R__law_rate py ds r) : w__law_rate (fun g => r = .err g) py (endsOf r) (startΓ ["_law_row", "_law_k"] ds) := by
  obtain ⟨p, m, rfl, hp, hl, lp, rfl⟩ := h
  unfold w__law_rate rowD
  unfold lLc iR2
  walk_at "dl"
  rw [List.length_map]
  refine ⟨⟨inR_of (by omega) (by omega), inR_of (by omega) (by omega)⟩, rfl, ?_⟩
  rw [int_pred]
  refine lc_map (slopeF p) _ _ (fun d hd Q R hQ => ?_) (by rw [rngD_length]; exact line_le (by show 0 + (p.length - 1) ≤ _; omega)) ?_
  · obtain ⟨i, hi⟩ := List.getElem?_of_mem hd
    obtain ⟨hi, rfl⟩ := rngD_at hi
    unfold tYesD
    have lt : 1 + i < p.length := by omega
    show eOp dIx (eVar 0) (eVar 1) [.im (.tuple (p.map frD)), .im (.int (1 + (i : Nat)))] _
    walk_at "dl"
    refine ixD_at (1 + i) (by omega) (map_get p (List.getElem?_eq_getElem lt)) ?_
    refine call_ok ⟨p[1 + i], ((1 + i : Nat) : Rat), m, 20, ?_, hp _ (List.getElem_mem lt), sz_nat (by omega) (by decide), hl, rfl⟩ ?_
    · rw [frD_nat, show ((1 + i : Nat) : Int) = 1 + (i : Int) by omega]
    · have e : slopeF p (.int (1 + (i : Nat))) = frD (p[1 + i] * ((1 + i : Nat) : Rat)) := by
        show frD (p.getD ((1 : Int) + (i : Nat)).toNat 0 * (((1 : Int) + (i : Nat)).toNat : Rat)) = _
        rw [show ((1 : Int) + (i : Nat)).toNat = 1 + i by omega, getD_lt p lt]
      rw [e] at hQ
      exact hQ
  · rw [List.nil_append, slope_map]
    exact call_ok ⟨slopeL p, .inl rfl, rfl⟩ rfl
end DL

set_option linter.all false
set_option autoImplicit false
set_option maxRecDepth 10000
set_option maxHeartbeats 400000
namespace DL
open PySem PySem.Spec L2
local macro_rules | `(tactic| walk_at "dl") => `(tactic| simp -implicitDefEqProofs only [wSeq, wNext, wSet, wSetL, wAsg, wPar, parD, wRet, wExpr, wApp, wSetIx, wIf, wFrz, wRaise, wBreak, wCont, eVar, eC, eOp, tBl, dI, dB, dAdd, dSub, dMul, dFdiv, dMod, dPow, eNeg, dLt, dLe, dGt, dGe, dEq, dNe, dIs, dIsNot, eAnd, eOr, eNot, tAndD, tOrD, tNotD,
  aNil, aCons, eTup, eLst, lLst, eL, dIx, eSl, dSl, oNo, oSome, eCB, cLen, cAbs, cMax, cMin, cTuple, cList, cInt, eIsi, isiD, dName, dTupT, dCons, dNil, eCell, cellP, eIxO, eLenO, eCall, startΓ, startS, List.getElem?_cons_zero, List.getElem?_cons_succ, List.set, List.map, List.length, List.replicate, List.append, List.cons_append, List.nil_append, Nat.sub_self, Nat.reduceAdd, Nat.reduceSub, true_and, ixD_0, ixD_1, ixD_2, ixD_3, ixD_4, ixD_5, ixD_6, ixD_7, ixD_8, ixD_9, ixD_10, ixD_11, ixD_12, ixD_13, ixD_14, ixD_15, ixD_16, ixD_17, ixD_18, ixD_19])
theorem ev_pad (k : Nat) (l : List Rat) (x : Rat) : ev (List.replicate k 0 ++ l) x = x ^ k * ev l x := by
  rw [ev_append, ev_zeros, List.length_replicate, Rat.zero_add]
theorem az_pad {m : Nat} {l : List Rat} (h : Az m l) (hm : 0 < m) (k : Nat) : Az m (List.replicate k 0 ++ l) := fun q hq => by
  rcases List.mem_append.mp hq with hq | hq
  · rw [(List.mem_replicate.mp hq).2]; exact sz_zero hm
  · exact h q hq
theorem az_scl {m n : Nat} {c : Rat} {l : List Rat} (h : Az m l) (hc : Sz n c) : Az (m + n) (sclL c l) := fun q hq => by
  obtain ⟨a, ha, rfl⟩ := List.mem_map.mp hq
  have hs := h a ha
  have e := (ib_of a).mul (ib_of c)
  have e2 : a * (a.den : Rat) * (c * (c.den : Rat)) = a * c * ((a.den * c.den : Nat) : Rat) := by rw [Rat.natCast_mul]; grind
  rw [e2] at e
  exact sz_of (Nat.mul_pos a.den_pos c.den_pos) (mul_bits hs.2 hc.2) (mul_bits hs.1 hc.1) e
theorem az_trim {m : Nat} {l : List Rat} (h : Az m l) : Az m (trim l) := fun q hq => h q (trim_sub l q hq)
theorem mulL_length (p q : List Rat) : (mulL p q).length ≤ p.length + q.length := by
  induction p with
  | nil => exact Nat.zero_le _
  | cons a p ih =>
    rw [mulL, addL_length]
    unfold sclL
    rw [List.length_map, List.length_cons, List.length_cons]
    omega
theorem sr_pos {m : Nat} {l : List Rat} (h : Sr m l) : 0 < m := by
  obtain ⟨E, B, h0, h1, _⟩ := h
  cases m with
  | zero => have : E < 1 := h1; omega
  | succ m => exact Nat.succ_pos _
theorem row_len_trim (l : List Rat) : (trim l).length ≤ l.length := trim_len l
theorem take_mul_sr {m n : Nat} {p q : List Rat} (hp : Sr m p) (hq : Sr n q) (lp : p.length ≤ 1000) (k : Nat) : Sr (m + n + 10) (trim (mulL (p.take k) q)) :=
  ((hp.sub fun x hx => List.mem_of_mem_take hx).mul hq (k := 10) (by rw [List.length_take]; omega)).trim
theorem pure__law_times (py : Prop) (ds : List D) (r : Res) (h : R__law_times py ds r) : w__law_times (fun g => r = .err g) py (endsOf r) (startΓ ["_law_one", "_law_other", "_law_found", "_law_k"] ds) := by
  obtain ⟨p, q, m, n, rfl, hp, hq, hl, lp, lq, rfl⟩ := h
  have mp := sr_pos hp
  have nq := sr_pos hq
  unfold w__law_times rowD
  refine seq_go fun nx hnx => ?_
  walk_at "dl"
  refine hnx _ ?_
  refine seq_go fun nx hnx => ?_
  unfold wFor iR1
  walk_at "dl"
  rw [List.length_map]
  refine ⟨inR_of (by omega) (by omega), ?_⟩
  rw [Int.toNat_natCast]
  refine for_inv (fun (k : Nat) (Γ : Ct) => k ≤ p.length ∧ ∃ e, Γ = [.im (.tuple (p.map frD)), .im (.tuple (q.map frD)), .im (rowD (trim (mulL (p.take k) q))), e]) (fun k d nx' Γ hd hn' hI => ?_) (fun Γ hI => ?_) ⟨Nat.zero_le _, _, rfl⟩
  · obtain ⟨_, e, rfl⟩ := hI
    obtain ⟨hk, rfl⟩ := rngD_at hd
    rw [Int.zero_add]
    have gk : p[k]? = some p[k] := List.getElem?_eq_getElem hk
    have sp := hp.az _ (List.getElem_mem hk)
    unfold rowD dMulT
    walk_at "dl"
    refine ⟨⟨by simp, by omega, by omega, by decide⟩, ixD_at k rfl (map_get p gk) ?_⟩
    refine call_ok ⟨q, p[k], n, m, rfl, hq.az, sp, hl.low (by omega), by omega, rfl⟩ ?_
    unfold rowD
    walk_at "dl"
    rw [Int.toNat_natCast, rep_flat]
    have lt := row_len_trim (sclL p[k] q)
    have ls : (sclL p[k] q).length = q.length := by unfold sclL; rw [List.length_map]
    refine ⟨line_le (by rw [List.length_map, List.length_map, List.length_replicate]; omega), ?_⟩
    rw [← List.map_append]
    have l3 := row_len_trim (mulL (p.take k) q)
    have l4 := mulL_length (p.take k) q
    have l5 : (p.take k).length ≤ 400 := by rw [List.length_take]; omega
    refine call_ok ⟨trim (mulL (p.take k) q), List.replicate k 0 ++ trim (sclL p[k] q), m + n + 10, n + m, rfl, (take_mul_sr hp hq (by omega) k).az, az_pad (az_trim (az_scl hq.az sp)) (by omega) k, by omega, by omega, hl.low (by omega), by omega, ?_, rfl⟩ ?_
    · rw [List.length_append, List.length_replicate]; omega
    · refine hn' _ ⟨hk, .im (.int k), ?_⟩
      have : trim (addL (trim (mulL (p.take k) q)) (List.replicate k 0 ++ trim (sclL p[k] q))) = trim (mulL (p.take (k + 1)) q) := trim_ext _ _ fun x => by
        rw [ev_add, ev_trim, ev_mul, ev_pad, ev_trim, ev_scl, ev_mul, ev_take p gk]
        grind
      rw [this]
  · obtain ⟨_, e, rfl⟩ := hI
    refine hnx _ ?_
    rw [rngD_length, List.take_length]
    rfl
/-! ### the law's numbers and rows -/
def rowBy (x : Int) (m : Nat) : List Rat := trim ((List.range (((stream x (m + 1)).getD 0 0) % ((m : Int) + 1)).toNat).map fun k => numQ ((stream x (m + 1)).getD (1 + k) 0))
theorem rowBy_row (x : Int) (m : Nat) : IsRow (rowBy x m) := row_trim _
theorem rowBy_az (x : Int) (m : Nat) : Az 20 (rowBy x m) := az_trim fun q hq => by
  obtain ⟨k, _, rfl⟩ := List.mem_map.mp hq
  exact numQ_sz _
theorem rowBy_len (x : Int) (m : Nat) : (rowBy x m).length ≤ m := by
  refine Nat.le_trans (trim_len _) ?_
  rw [List.length_map, List.length_range]
  have h1 := Int.emod_nonneg ((stream x (m + 1)).getD 0 0) (show ((m : Int) + 1) ≠ 0 by omega)
  have h2 := Int.emod_lt_of_pos ((stream x (m + 1)).getD 0 0) (show 0 < ((m : Int) + 1) by omega)
  omega
def R__law_row_by (py : Prop) : List D → Res → Prop := fun ds r => ∃ (x : Int) (m : Nat), ds = [.int x, .int m] ∧ m ≤ 500 ∧ r = .ok (rowD (rowBy x m))
def badL : List D := [.tuple [.int 2, .int 6], .tuple [.int 1, .int 0], .tuple [.bool true, .int 1], .int 3, .tuple [.int 1, .int (-2)], .tuple [.int 1, .int 1, .int 1], .none, .list [.int 1, .int 1], .tuple [.int 0, .int 2], .str "1", .tuple [.int 1, .bool true], .tuple [.tuple [.int 1, .int 1]]]
def badD (x : Int) : D := badL.getD (x % 12).toNat .none
theorem badL_fr : ∀ d ∈ badL, isFr d = false := by decide
theorem badD_fr (x : Int) : isFr (badD x) = false := by
  unfold badD
  rw [List.getD_eq_getElem?_getD]
  cases e : badL[(x % 12).toNat]? with
  | some d => exact badL_fr d (List.mem_of_getElem? e)
  | none => rfl
def R__law_bad (py : Prop) : List D → Res → Prop := fun ds r => ∃ x : Int, ds = [.int x] ∧ r = .ok (badD x)
def wrongAt (x : Int) (l : List Rat) : Nat := (x / 96 % ((l.length : Int) + 1)).toNat
def notsL (l : List Rat) : List D := [.list (l.map frD), .none, .str "row", .int 5, .list [rowD l], .bool true]
def wrongD (x : Int) (l : List Rat) : D := if x % 8 = 0 then .tuple (l.map frD ++ [frD 0]) else if x % 8 = 1 then (notsL l).getD (x / 96 % 6).toNat .none
  else .tuple ((l.map frD).take (wrongAt x l) ++ [badD (x / 8)] ++ (l.map frD).drop (wrongAt x l))
theorem wrongD_no (x : Int) (l : List Rat) : isRow (wrongD x l) = false := by
  unfold wrongD
  split
  · exact isRow_zero l
  · split
    · rw [List.getD_eq_getElem?_getD]
      cases e : (notsL l)[(x / 96 % 6).toNat]? with
      | some d =>
        have := List.mem_of_getElem? e
        unfold notsL at this
        simp only [List.mem_cons, List.not_mem_nil, or_false] at this
        rcases this with rfl | rfl | rfl | rfl | rfl | rfl <;> rfl
      | none => rfl
    · show (List.all _ isFr && _) = false
      rw [List.all_append, List.all_append]
      have : [badD (x / 8)].all isFr = false := by rw [List.all_cons, badD_fr]; rfl
      rw [this, Bool.and_false, Bool.false_and, Bool.false_and]
def R__law_wrong_row (py : Prop) : List D → Res → Prop := fun ds r => ∃ (x : Int) (l : List Rat), ds = [.int x, rowD l] ∧ l.length ≤ 1000 ∧ r = .ok (wrongD x l)
def w__law_row_by (Ex : Nat → Prop) (py : Prop) : DS :=
  (wSeq (wSet 2 (eCall Ex (R__law_stream py) (aCons (eVar 0) (aCons (eOp dAdd (eVar 1) (eC (.int 1))) aNil))))
  (wRet (eCall Ex (R__law_trim py) (aCons (eL (lLc (iR1 (aCons (eOp dMod (eOp dIx (eVar 2) (eC (.int 0))) (eOp dAdd (eVar 1) (eC (.int 1)))) aNil)) [3] (dName 3) tYesD (eCall (fun _ => False) (R__law_number py) (aCons (eOp dIx (eVar 2) (eOp dAdd (eC (.int 1)) (eVar 3))) aNil)))) aNil))))

def w__law_bad (Ex : Nat → Prop) (py : Prop) : DS :=
  (wRet (eOp dIx (eLst (aCons (eTup (aCons (eC (.int 2)) (aCons (eC (.int 6)) aNil))) (aCons (eTup (aCons (eC (.int 1)) (aCons (eC (.int 0)) aNil))) (aCons (eTup (aCons (eC (.bool true)) (aCons (eC (.int 1)) aNil))) (aCons (eC (.int 3)) (aCons (eTup (aCons (eC (.int 1)) (aCons (eNeg (eC (.int 2))) aNil))) (aCons (eTup (aCons (eC (.int 1)) (aCons (eC (.int 1)) (aCons (eC (.int 1)) aNil)))) (aCons (eC .none) (aCons (eLst (aCons (eC (.int 1)) (aCons (eC (.int 1)) aNil))) (aCons (eTup (aCons (eC (.int 0)) (aCons (eC (.int 2)) aNil))) (aCons (eC (.str "1")) (aCons (eTup (aCons (eC (.int 1)) (aCons (eC (.bool true)) aNil))) (aCons (eTup (aCons (eTup (aCons (eC (.int 1)) (aCons (eC (.int 1)) aNil))) aNil)) aNil))))))))))))) (eOp dMod (eVar 0) (eC (.int 12)))))

def w__law_wrong_row (Ex : Nat → Prop) (py : Prop) : DS :=
  (wSeq (wSet 2 (eOp dMod (eOp (dFdiv py) (eVar 0) (eC (.int 96))) (eOp dAdd (eCB cLen (aCons (eVar 1) aNil)) (eC (.int 1)))))
  (wSeq (wIf (tBl (eOp dEq (eOp dMod (eVar 0) (eC (.int 8))) (eC (.int 0))))
  (wRet (eOp dAdd (eVar 1) (eTup (aCons (eTup (aCons (eC (.int 0)) (aCons (eC (.int 1)) aNil))) aNil))))
  wNext)
  (wSeq (wIf (tBl (eOp dEq (eOp dMod (eVar 0) (eC (.int 8))) (eC (.int 1))))
  (wRet (eOp dIx (eLst (aCons (eCB cList (aCons (eVar 1) aNil)) (aCons (eC .none) (aCons (eC (.str "row")) (aCons (eC (.int 5)) (aCons (eLst (aCons (eVar 1) aNil)) (aCons (eC (.bool true)) aNil))))))) (eOp dMod (eOp (dFdiv py) (eVar 0) (eC (.int 96))) (eC (.int 6)))))
  wNext)
  (wRet (eOp dAdd (eOp dAdd (eSl (eVar 1) oNo (oSome (eVar 2))) (eTup (aCons (eCall Ex (R__law_bad py) (aCons (eOp (dFdiv py) (eVar 0) (eC (.int 8))) aNil)) aNil))) (eSl (eVar 1) (oSome (eVar 2)) oNo))))))

theorem stream_get {x : Int} {m k : Nat} (h : k < m) : ((stream x m).map PyData.int)[k]? = some (.int ((stream x m).getD k 0)) := by
  have hl : k < (stream x m).length := by rw [stream_len]; exact h
  rw [List.getElem?_map, List.getD_eq_getElem?_getD, List.getElem?_eq_getElem hl]
  rfl
theorem stream_getD {x : Int} {m k : Nat} (h : k < m) : 0 ≤ (stream x m).getD k 0 ∧ (stream x m).getD k 0 < 2147483647 := by
  have hl : k < (stream x m).length := by rw [stream_len]; exact h
  rw [List.getD_eq_getElem?_getD, List.getElem?_eq_getElem hl]
  exact stream_mem _ (List.getElem_mem hl)
theorem pure__law_row_by (py : Prop) (ds : List D) (r : Res) (h : R__law_row_by py ds r) : w__law_row_by (fun g => r = .err g) py (endsOf r) (startΓ ["_law_x", "_law_most", "_law_xs", "_law_k"] ds) := by
  obtain ⟨x, m, rfl, hm, rfl⟩ := h
  unfold w__law_row_by
  refine seq_go fun nx hnx => ?_
  walk_at "dl"
  refine call_ok ⟨x, m + 1, rfl, by omega, rfl⟩ (hnx _ ?_)
  unfold lLc iR1 intsD
  walk_at "dl"
  rw [stream_get (x := x) (m := m + 1) (k := 0) (by omega)]
  dsimp only
  have h1 := Int.emod_nonneg ((stream x (m + 1)).getD 0 0) (show ((m : Int) + 1) ≠ 0 by omega)
  have h2 := Int.emod_lt_of_pos ((stream x (m + 1)).getD 0 0) (show 0 < ((m : Int) + 1) by omega)
  refine ⟨by omega, inR_of (by omega) (by omega), rfl, ?_⟩
  refine lc_get _ (((List.range (((stream x (m + 1)).getD 0 0) % ((m : Int) + 1)).toNat).map fun k => numQ ((stream x (m + 1)).getD (1 + k) 0)).map frD) [] (by rw [rngD_length, List.length_map, List.length_map, List.length_range]) (fun i d y hd hy Q R hQ => ?_) (by rw [rngD_length]; exact line_le (by show 0 + _ ≤ _; omega)) ?_
  · obtain ⟨hi, rfl⟩ := rngD_at hd
    rw [List.getElem?_map, List.getElem?_map, List.getElem?_range hi] at hy
    cases hy
    unfold tYesD
    show eCall (fun _ => False) (R__law_number py) (aCons (eOp dIx (eVar 2) (eOp dAdd (eC (.int 1)) (eVar 3))) aNil) [.im (.int x), .im (.int m), .im (.list ((stream x (m + 1)).map PyData.int)), .im (.int (0 + (i : Int)))] Q
    walk_at "dl"
    refine ixD_at (1 + i) (by omega) (stream_get (x := x) (m := m + 1) (k := 1 + i) (by omega)) ?_
    exact call_ok ⟨_, rfl, stream_getD (by omega), rfl⟩ hQ
  · rw [List.nil_append]
    exact call_ok ⟨_, .inl rfl, rfl⟩ rfl
theorem pure__law_bad (py : Prop) (ds : List D) (r : Res) (h : R__law_bad py ds r) : w__law_bad (fun g => r = .err g) py (endsOf r) (startΓ ["_law_x"] ds) := by
  obtain ⟨x, rfl, rfl⟩ := h
  unfold w__law_bad
  walk_at "dl"
  have h1 := Int.emod_nonneg x (show (12 : Int) ≠ 0 by decide)
  have h2 := Int.emod_lt_of_pos x (show (0 : Int) < 12 by decide)
  refine ⟨by decide, ?_⟩
  have hl : (x % 12).toNat < badL.length := by show _ < 12; omega
  show ixD badL (x % 12) _
  refine ixD_at (x % 12).toNat (by omega) (List.getElem?_eq_getElem hl) ?_
  unfold badD
  rw [List.getD_eq_getElem?_getD, List.getElem?_eq_getElem hl]
  rfl
theorem cutD_from (ds : List D) (k : Nat) (h : k ≤ ds.length) : cutD ds (some ((k : Nat) : Int)) none = ds.drop k := by
  unfold cutD
  rw [HT.sIx_none, HT.sIx_nat, Nat.min_eq_left h]
  exact List.take_of_length_le (by rw [List.length_drop]; exact Nat.le_refl _)
theorem pure__law_wrong_row (py : Prop) (ds : List D) (r : Res) (h : R__law_wrong_row py ds r) : w__law_wrong_row (fun g => r = .err g) py (endsOf r) (startΓ ["_law_x", "_law_row", "_law_at"] ds) := by
  obtain ⟨x, l, rfl, hl, rfl⟩ := h
  unfold w__law_wrong_row rowD
  have z96 : (0 : Int) < 96 ∧ ((96 : Int).natAbs.log2 < 9000 ∨ py) := ⟨by decide, .inl (by decide)⟩
  have z8 : (0 : Int) < 8 ∧ ((8 : Int).natAbs.log2 < 9000 ∨ py) := ⟨by decide, .inl (by decide)⟩
  have h1 := Int.emod_nonneg (x / 96) (show ((l.length : Int) + 1) ≠ 0 by omega)
  have h2 := Int.emod_lt_of_pos (x / 96) (show 0 < ((l.length : Int) + 1) by omega)
  have at_ : x / 96 % ((l.length : Int) + 1) = ((wrongAt x l : Nat) : Int) := by unfold wrongAt; omega
  have at_le : wrongAt x l ≤ l.length := by unfold wrongAt; omega
  refine seq_go fun nx hnx => ?_
  walk_at "dl"
  rw [List.length_map]
  refine ⟨z96, by omega, hnx _ ?_⟩
  rw [at_]
  refine seq_go fun nx hnx => ?_
  walk_at "dl"
  refine ⟨z8.1, ?_⟩
  by_cases c0 : x % 8 = 0
  · have ew : wrongD x l = .tuple (l.map frD ++ [frD 0]) := if_pos c0
    rw [decide_eq_true c0, ew]
    exact ⟨line_le (by rw [List.length_map]; show _ + 1 ≤ _; omega), rfl⟩
  · rw [decide_eq_false c0]
    refine hnx _ ?_
    refine seq_go fun nx hnx => ?_
    walk_at "dl"
    refine ⟨z8.1, ?_⟩
    by_cases c1 : x % 8 = 1
    · have ew : wrongD x l = (notsL l).getD (x / 96 % 6).toNat .none := by unfold wrongD; rw [if_neg c0, if_pos c1]
      rw [decide_eq_true c1, ew]
      have h3 := Int.emod_nonneg (x / 96) (show (6 : Int) ≠ 0 by decide)
      have h4 := Int.emod_lt_of_pos (x / 96) (show (0 : Int) < 6 by decide)
      refine ⟨z96, by decide, ?_⟩
      have hl : (x / 96 % 6).toNat < (notsL l).length := by show _ < 6; omega
      show ixD (notsL l) (x / 96 % 6) _
      refine ixD_at (x / 96 % 6).toNat (by omega) (List.getElem?_eq_getElem hl) ?_
      rw [List.getD_eq_getElem?_getD, List.getElem?_eq_getElem hl]
      rfl
    · have ew : wrongD x l = .tuple ((l.map frD).take (wrongAt x l) ++ [badD (x / 8)] ++ (l.map frD).drop (wrongAt x l)) := by unfold wrongD; rw [if_neg c0, if_neg c1]
      rw [decide_eq_false c1]
      refine hnx _ ?_
      rw [ew]
      walk_at "dl"
      rw [cutD_to _ _ (by rw [List.length_map]; exact at_le), cutD_from _ _ (by rw [List.length_map]; exact at_le)]
      refine ⟨z8, call_ok ⟨_, rfl, rfl⟩ ⟨line_le ?_, line_le ?_, rfl⟩⟩
      · rw [List.length_take, List.length_map]; show min _ _ + 1 ≤ _; omega
      · rw [List.length_append, List.length_take, List.length_drop, List.length_map]; show min _ _ + 1 + _ ≤ _; omega
end DL

set_option linter.all false
set_option autoImplicit false
set_option maxRecDepth 10000
set_option maxHeartbeats 400000
namespace DL
open PySem PySem.Spec L2
local macro_rules | `(tactic| walk_at "dl") => `(tactic| simp -implicitDefEqProofs only [wSeq, wNext, wSet, wSetL, wAsg, wPar, parD, wRet, wExpr, wApp, wSetIx, wIf, wFrz, wRaise, wBreak, wCont, eVar, eC, eOp, tBl, dI, dB, dAdd, dSub, dMul, dFdiv, dMod, dPow, eNeg, dLt, dLe, dGt, dGe, dEq, dNe, dIs, dIsNot, eAnd, eOr, eNot, tAndD, tOrD, tNotD,
  aNil, aCons, eTup, eLst, lLst, eL, dIx, eSl, dSl, oNo, oSome, eCB, cLen, cAbs, cMax, cMin, cTuple, cList, cInt, eIsi, isiD, dName, dTupT, dCons, dNil, eCell, cellP, eIxO, eLenO, eCall, startΓ, startS, List.getElem?_cons_zero, List.getElem?_cons_succ, List.set, List.map, List.length, List.replicate, List.append, List.cons_append, List.nil_append, Nat.sub_self, Nat.reduceAdd, Nat.reduceSub, true_and, ixD_0, ixD_1, ixD_2, ixD_3, ixD_4, ixD_5, ixD_6, ixD_7, ixD_8, ixD_9, ixD_10, ixD_11, ixD_12, ixD_13, ixD_14, ixD_15, ixD_16, ixD_17, ixD_18, ixD_19])
/-! ### rows compared -/
theorem can_tup (xs : List D) : PyData.canLay0 (.tuple xs) = PyData.canLayAll0 xs := by rw [PyData.canLay0]
theorem dep_tup (xs : List D) : PyData.depth (.tuple xs) = PyData.depthAll xs + 1 := by rw [PyData.depth]
theorem can_int (i : Int) : PyData.canLay0 (.int i) = true := by rw [PyData.canLay0]
theorem dep_int (i : Int) : PyData.depth (.int i) = 0 := by rw [PyData.depth]
theorem can_nil : PyData.canLayAll0 [] = true := by rw [PyData.canLayAll0]
theorem can_cons (x : D) (xs : List D) : PyData.canLayAll0 (x :: xs) = (x.canLay0 && PyData.canLayAll0 xs) := by rw [PyData.canLayAll0]
theorem dep_nil : PyData.depthAll [] = 0 := by rw [PyData.depthAll]
theorem dep_cons (x : D) (xs : List D) : PyData.depthAll (x :: xs) = max x.depth (PyData.depthAll xs) := by rw [PyData.depthAll]
theorem eqv_tup (xs ys : List D) : PyData.eqv (.tuple xs) (.tuple ys) = PyData.eqvAll xs ys := by rw [PyData.eqv]
theorem eqv_int (i j : Int) : PyData.eqv (.int i) (.int j) = (i == j) := by rw [PyData.eqv]
theorem eqvAll_cons (x y : D) (xs ys : List D) : PyData.eqvAll (x :: xs) (y :: ys) = (x.eqv y && PyData.eqvAll xs ys) := by rw [PyData.eqvAll]
theorem eqvAll_nil : PyData.eqvAll [] [] = true := by rw [PyData.eqvAll]
/-- a thing that may be compared, of at most n levels -/
def Shp (n : Nat) (d : D) : Prop := PyData.canLay0 d = true ∧ PyData.depth d ≤ n
theorem Shp.shaped {n : Nat} {d : D} (h : Shp n d) (hn : n ≤ 64) : SeqAt.shaped d = true := by
  unfold SeqAt.shaped
  rw [h.1, decide_eq_true (Nat.le_trans h.2 hn)]
  rfl
theorem Shp.int (i : Int) (n : Nat) : Shp n (.int i) := ⟨can_int i, by rw [dep_int]; exact Nat.zero_le _⟩
theorem Shp.tup {n : Nat} {xs : List D} (h : ∀ d ∈ xs, Shp n d) : Shp (n + 1) (.tuple xs) := by
  unfold Shp
  rw [can_tup, dep_tup]
  suffices z : PyData.canLayAll0 xs = true ∧ PyData.depthAll xs ≤ n from ⟨z.1, Nat.succ_le_succ z.2⟩
  induction xs with
  | nil => exact ⟨can_nil, by rw [dep_nil]; exact Nat.zero_le _⟩
  | cons x xs ih =>
    obtain ⟨i1, i2⟩ := ih fun d hd => h d (List.mem_cons_of_mem _ hd)
    obtain ⟨h1, h2⟩ := h x (List.mem_cons_self ..)
    rw [can_cons, dep_cons, h1, i1]
    exact ⟨rfl, Nat.max_le.mpr ⟨h2, i2⟩⟩
theorem shp_fr (q : Rat) : Shp 1 (frD q) := .tup fun d hd => by
  simp only [List.mem_cons, List.not_mem_nil, or_false] at hd
  rcases hd with rfl | rfl <;> exact .int _ _
theorem shp_row (l : List Rat) : Shp 2 (rowD l) := .tup fun d hd => by
  obtain ⟨q, _, rfl⟩ := List.mem_map.mp hd
  exact shp_fr q
theorem shaped_fr (q : Rat) : SeqAt.shaped (frD q) = true := (shp_fr q).shaped (by decide)
theorem shaped_row (l : List Rat) : SeqAt.shaped (rowD l) = true := (shp_row l).shaped (by decide)
theorem eqv_fr (p q : Rat) : PyData.eqv (frD p) (frD q) = decide (p = q) := by
  unfold frD
  rw [eqv_tup, eqvAll_cons, eqvAll_cons, eqvAll_nil, eqv_int, eqv_int, Bool.and_true]
  by_cases h : p = q
  · subst h
    rw [beq_self_eq_true, beq_self_eq_true, decide_eq_true rfl]
    rfl
  · rw [decide_eq_false h]
    by_cases h1 : p.num = q.num
    · by_cases h2 : p.den = q.den
      · exact absurd (Rat.ext h1 h2) h
      · rw [show ((p.den : Int) == (q.den : Int)) = false from beq_eq_false_iff_ne.mpr (by omega), Bool.and_false]
    · rw [show (p.num == q.num) = false from beq_eq_false_iff_ne.mpr h1, Bool.false_and]
theorem eqv_row (p q : List Rat) : PyData.eqv (rowD p) (rowD q) = decide (p = q) := by
  unfold rowD
  rw [eqv_tup]
  induction p generalizing q with
  | nil => cases q with
    | nil => rw [List.map_nil, eqvAll_nil]; rfl
    | cons b q => rw [decide_eq_false (by simp)]; simp only [List.map_nil, List.map_cons, PyData.eqvAll]
  | cons a p ih => cases q with
    | nil => rw [decide_eq_false (by simp)]; simp only [List.map_nil, List.map_cons, PyData.eqvAll]
    | cons b q =>
      rw [List.map_cons, List.map_cons, eqvAll_cons, ih, eqv_fr]
      by_cases h : a = b
      · subst h
        rw [decide_eq_true rfl, Bool.true_and]
        exact decide_eq_decide.mpr ⟨fun z => by rw [z], fun z => (List.cons.inj z).2⟩
      · rw [decide_eq_false h, Bool.false_and, decide_eq_false fun z => h (List.cons.inj z).1]
theorem ne_row {p q : List Rat} {P : D → Prop} (h : P (.bool (!decide (p = q)))) : dNe (rowD p) (rowD q) P := ⟨⟨shaped_row p, shaped_row q⟩, by rw [eqv_row]; exact h⟩
theorem eq_row {p q : List Rat} {P : D → Prop} (h : P (.bool (decide (p = q)))) : dEq (rowD p) (rowD q) P := ⟨⟨shaped_row p, shaped_row q⟩, by rw [eqv_row]; exact h⟩
theorem ne_fr {p q : Rat} {P : D → Prop} (h : P (.bool (!decide (p = q)))) : dNe (frD p) (frD q) P := ⟨⟨shaped_fr p, shaped_fr q⟩, by rw [eqv_fr]; exact h⟩
theorem eq_fr {p q : Rat} {P : D → Prop} (h : P (.bool (decide (p = q)))) : dEq (frD p) (frD q) P := ⟨⟨shaped_fr p, shaped_fr q⟩, by rw [eqv_fr]; exact h⟩
end DL

set_option linter.all false
set_option autoImplicit false
namespace DL
/-! ### division of rows -/
theorem addL_len (p q : List Rat) : (addL p q).length = max p.length q.length := by
  induction p generalizing q with
  | nil => rw [addL, List.length_nil, Nat.zero_max]
  | cons a p ih =>
    cases q with
    | nil => rw [addL, List.length_nil, Nat.max_zero]
    | cons b q => rw [addL, List.length_cons, List.length_cons, List.length_cons, ih, Nat.succ_max_succ]
theorem sclL_len (c : Rat) (l : List Rat) : (sclL c l).length = l.length := List.length_map _
theorem mulL_len (p q : List Rat) : (mulL p q).length ≤ p.length + q.length := by
  induction p with
  | nil => exact Nat.zero_le _
  | cons a p ih =>
    rw [mulL, addL_len, sclL_len, List.length_cons, List.length_cons]
    omega
theorem mulL_len1 (p q : List Rat) (hq : q ≠ []) : (mulL p q).length ≤ p.length + q.length - 1 := by
  have h1 : 0 < q.length := List.length_pos_iff.mpr hq
  induction p with
  | nil => exact Nat.zero_le _
  | cons a p ih =>
    rw [mulL, addL_len, sclL_len, List.length_cons, List.length_cons]
    omega
/-- a list drawn out to n places -/
def padL (n : Nat) (l : List Rat) : List Rat := l ++ List.replicate (n - l.length) 0
theorem ev_padL (n : Nat) (l : List Rat) (x : Rat) : ev (padL n l) x = ev l x := by
  unfold padL
  rw [ev_append, ev_zeros, Rat.mul_zero, Rat.add_zero]
theorem padL_len {n : Nat} {l : List Rat} (h : l.length ≤ n) : (padL n l).length = n := by
  unfold padL
  rw [List.length_append, List.length_replicate]
  omega
theorem rat_mul_ne {a b : Rat} (ha : a ≠ 0) (hb : b ≠ 0) : a * b ≠ 0 := fun z => by
  rcases Rat.mul_eq_zero.mp z with h | h
  · exact ha h
  · exact hb h
theorem rpow_add (x : Rat) (j k : Nat) : x ^ (j + k) = x ^ j * x ^ k := by
  induction k with
  | zero => rw [Nat.add_zero, Rat.pow_zero, Rat.mul_one]
  | succ k ih => rw [← Nat.add_assoc, Rat.pow_succ, Rat.pow_succ, ih, Rat.mul_assoc]
theorem ev_snoc (l : List Rat) (a x : Rat) : ev (l ++ [a]) x = ev l x + x ^ l.length * a := by
  rw [ev_append, ev_cons, ev_nil]
  grind
theorem mul_snoc (p q : List Rat) {a b : Rat} (ha : a ≠ 0) (hb : b ≠ 0) : ∃ R : List Rat, R.length = p.length + q.length ∧ trim (mulL (p ++ [a]) (q ++ [b])) = R ++ [a * b] := by
  have l1 : (addL (mulL p (q ++ [b])) (List.replicate p.length 0 ++ sclL a q)).length ≤ p.length + q.length := by
    have := mulL_len1 p (q ++ [b]) (by simp)
    rw [List.length_append] at this
    have h3 : [b].length = 1 := rfl
    rw [addL_len, List.length_append, List.length_replicate, sclL_len]
    omega
  refine ⟨padL (p.length + q.length) (addL (mulL p (q ++ [b])) (List.replicate p.length 0 ++ sclL a q)), padL_len l1, ?_⟩
  rw [← trim_last _ _ (rat_mul_ne ha hb)]
  refine trim_ext _ _ fun x => ?_
  have ez : ev (List.replicate p.length 0 ++ sclL a q) x = x ^ p.length * (ev q x * a) := by rw [ev_append, ev_zeros, List.length_replicate, ev_scl, Rat.zero_add]
  rw [ev_snoc, padL_len l1, ev_padL, ev_add, ev_mul, ev_mul, ez, ev_snoc, ev_snoc, rpow_add]
  grind
theorem mul_row_len {p q : List Rat} (hp : IsRow p) (hq : IsRow q) (p0 : p ≠ []) (q0 : q ≠ []) : (trim (mulL p q)).length + 1 = p.length + q.length := by
  rcases snoc_cases p with rfl | ⟨p, a, rfl⟩
  · exact absurd rfl p0
  · rcases snoc_cases q with rfl | ⟨q, b, rfl⟩
    · exact absurd rfl q0
    · obtain ⟨R, h1, h2⟩ := mul_snoc p q (snoc_row hp) (snoc_row hq)
      rw [h2, List.length_append, List.length_append, List.length_append, h1]
      simp only [List.length_singleton]
      omega
/-- (w, l) is p by o -/
structure Dv (p o w l : List Rat) : Prop where
  rw_ : IsRow w
  rl : IsRow l
  lt : l.length < o.length
  eq : ∀ x, ev p x = ev w x * ev o x + ev l x
theorem Dv.uniq {p o w l w' l' : List Rat} (ho : IsRow o) (h : Dv p o w l) (h' : Dv p o w' l') : w = w' ∧ l = l' := by
  have hw : w = w' := by
    refine row_ext h.rw_ h'.rw_ fun x => ?_
    have e : ∀ x, ev (mulL (trim (addL w (sclL (-1) w'))) o) x = ev (addL l' (sclL (-1) l)) x := fun x => by
      have h1 := h.eq x
      have h2 := h'.eq x
      rw [ev_mul, ev_trim, ev_add, ev_scl, ev_add, ev_scl]
      grind
    have d : trim (addL w (sclL (-1) w')) = [] := by
      rcases Classical.em (trim (addL w (sclL (-1) w')) = []) with h0 | h0
      · exact h0
      · have o0 : o ≠ [] := fun z => by have := h.lt; rw [z] at this; exact absurd this (Nat.not_lt_zero _)
        have h3 := mul_row_len (row_trim _) ho h0 o0
        rw [trim_ext _ _ e] at h3
        have h4 := trim_len (addL l' (sclL (-1) l))
        rw [addL_len, sclL_len] at h4
        have h5 := h.lt
        have h6 := h'.lt
        have h7 := List.length_pos_iff.mpr h0
        omega
    have := (row_eq_nil_iff (row_trim (addL w (sclL (-1) w')))).mp d x
    rw [ev_trim, ev_add, ev_scl] at this
    grind
  refine ⟨hw, row_ext h.rl h'.rl fun x => ?_⟩
  subst hw
  have h1 := h.eq x
  have h2 := h'.eq x
  grind
/-! a step of the division, with its sizes -/
theorem ib_div {B C F : Nat} {x y z : Rat} {m : Int} {E : Nat} (h : Ib B (x * E)) (g : Ib C (z * F)) (hm : m ≠ 0) (hy : y * (F : Rat) = (m : Rat)) (hF : 0 < F) : Ib (B * C) (x / y * z * ((E * m.natAbs : Nat) : Rat)) := by
  have hp := h.mul g
  have hm2 : (m : Rat) ≠ 0 := fun e => hm (by
    have h3 : (m : Rat) = ((0 : Int) : Rat) := e
    exact Rat.intCast_inj.mp h3)
  have y0 : y ≠ 0 := fun e => by rw [e, Rat.zero_mul] at hy; exact hm2 hy.symm
  have e1 : x / y * z * ((E : Rat) * (m : Rat)) = x * (E : Rat) * (z * (F : Rat)) := by rw [← hy]; grind
  rw [← e1] at hp
  have h3 : ((m.natAbs : Nat) : Rat) = (((m.natAbs : Nat) : Int) : Rat) := rfl
  rcases Int.natAbs_eq m with e | e
  · have e2 : ((E * m.natAbs : Nat) : Rat) = (E : Rat) * (m : Rat) := by rw [Rat.natCast_mul, h3, ← e]
    rw [e2]
    exact hp
  · have h4 : ((m.natAbs : Nat) : Int) = -m := by omega
    have e2 : x / y * z * ((E * m.natAbs : Nat) : Rat) = -(x / y * z * ((E : Rat) * (m : Rat))) := by
      rw [Rat.natCast_mul, h3, h4, Rat.intCast_neg]
      grind
    rw [e2]
    exact hp.neg
theorem Ce.append {E B : Nat} {p q : List Rat} (h : Ce E B p) (g : Ce E B q) : Ce E B (p ++ q) := fun x hx => by
  rcases List.mem_append.mp hx with hx | hx
  · exact h x hx
  · exact g x hx
theorem Ce.zeros {E B n : Nat} : Ce E B (List.replicate n 0) := fun x hx => by
  rw [(List.mem_replicate.mp hx).2, Rat.zero_mul]
  exact .zero _
theorem Ce.neg {E B : Nat} {l : List Rat} (h : Ce E B l) : Ce E B (sclL (-1) l) := fun x hx => by
  obtain ⟨a, ha, rfl⟩ := List.mem_map.mp hx
  have e : a * -1 * (E : Rat) = -(a * (E : Rat)) := by grind
  rw [e]
  exact (h a ha).neg
theorem Ce.setL {E B : Nat} {l : List Rat} {i : Nat} {v : Rat} (h : Ce E B l) (hv : Ib B (v * E)) : Ce E B (l.set i v) := fun q hq => by
  rcases List.mem_or_eq_of_mem_set hq with h2 | rfl
  · exact h q h2
  · exact hv
/-- what is left after a step, of L ++ [a] by O ++ [b] -/
def nextL (L O : List Rat) (c : Rat) : List Rat := trim (addL L (trim (sclL (-1) (List.replicate (L.length - O.length) 0 ++ sclL c O))))
/-- after k steps -/
structure DSt (E B F C : Nat) (m : Int) (p o : List Rat) (k : Nat) (w l : List Rat) : Prop where
  wl : w.length = p.length + 1 - o.length
  cw : Ce (E * m.natAbs ^ k) (B * (2 * C) ^ k * F) w
  cl : Ce (E * m.natAbs ^ k) (B * (2 * C) ^ k) l
  rl : IsRow l
  lk : l.length + k ≤ p.length
  z : ∀ i, i + o.length ≤ l.length → w.getD i 0 = 0
  eq : ∀ x, ev p x = ev w x * ev o x + ev l x
theorem DSt.start {E B F C : Nat} {m : Int} {p o : List Rat} (hp : IsRow p) (h : Ce E B p) : DSt E B F C m p o 0 (List.replicate (p.length + 1 - o.length) 0) p :=
  ⟨List.length_replicate, .zeros, by rw [Nat.pow_zero, Nat.pow_zero, Nat.mul_one, Nat.mul_one]; exact h, hp, Nat.le_refl _, fun i _ => by
    rw [List.getD_eq_getElem?_getD, List.getElem?_replicate]
    split <;> rfl, fun x => by rw [ev_zeros]; grind⟩
theorem getD_set (l : List Rat) (i j : Nat) (v : Rat) (h : i ≠ j) : (l.set i v).getD j 0 = l.getD j 0 := by
  rw [List.getD_eq_getElem?_getD, List.getD_eq_getElem?_getD, List.getElem?_set_ne h]
theorem DSt.step {E B F C k : Nat} {m : Int} {p O L w : List Rat} {a b : Rat} (hF : 0 < F) (ho : Ce F C (O ++ [b])) (hb : b * (F : Rat) = (m : Rat)) (hm : m ≠ 0) (hle : O.length ≤ L.length)
    (h : DSt E B F C m p (O ++ [b]) k w (L ++ [a])) : DSt E B F C m p (O ++ [b]) (k + 1) (w.set (L.length - O.length) (a / b)) (nextL L O (a / b)) ∧ L.length - O.length < w.length ∧ (nextL L O (a / b)).length ≤ L.length := by
  have la : (L ++ [a]).length = L.length + 1 := by rw [List.length_append]; rfl
  have lo : (O ++ [b]).length = O.length + 1 := by rw [List.length_append]; rfl
  have hwl := h.wl
  have hlk := h.lk
  rw [la] at hlk
  rw [lo] at hwl
  have hat : L.length - O.length < w.length := by omega
  have hmC : m.natAbs ≤ C := by
    obtain ⟨z, e, hz⟩ := ho b (List.mem_append_right _ (List.mem_singleton.mpr rfl))
    rw [hb] at e
    rw [Rat.intCast_inj.mp e]
    exact hz
  have hm2 : (m : Rat) ≠ 0 := fun e => hm (by
    have h3 : (m : Rat) = ((0 : Int) : Rat) := e
    exact Rat.intCast_inj.mp h3)
  have b0 : b ≠ 0 := fun e => by rw [e, Rat.zero_mul] at hb; exact hm2 hb.symm
  have ia := h.cl a (List.mem_append_right _ (List.mem_singleton.mpr rfl))
  have hE : E * m.natAbs ^ k * m.natAbs = E * m.natAbs ^ (k + 1) := by rw [Nat.mul_assoc, ← Nat.pow_succ]
  have c1 : Ib (B * (2 * C) ^ k * F) (a / b * ((E * m.natAbs ^ (k + 1) : Nat) : Rat)) := by
    have one : Ib F ((1 : Rat) * (F : Rat)) := by rw [Rat.one_mul]; exact .nat F
    have := ib_div ia one hm hb hF
    rw [hE, Rat.mul_one] at this
    exact this
  have cO : Ce (E * m.natAbs ^ (k + 1)) (B * (2 * C) ^ k * C) (sclL (a / b) O) := fun q hq => by
    obtain ⟨z, hz, rfl⟩ := List.mem_map.mp hq
    have := ib_div ia (ho z (List.mem_append_left _ hz)) hm hb hF
    rw [hE] at this
    rw [Rat.mul_comm z]
    exact this
  have cL : Ce (E * m.natAbs ^ (k + 1)) (B * (2 * C) ^ k * C) L := by
    have h1 : Ce (E * m.natAbs ^ k) (B * (2 * C) ^ k) L := fun q hq => h.cl q (List.mem_append_left _ hq)
    have h2 := h1.wide (F := m.natAbs)
    rw [hE] at h2
    exact h2.up (Nat.mul_le_mul_left _ hmC)
  have hB : B * (2 * C) ^ k * C + B * (2 * C) ^ k * C = B * (2 * C) ^ (k + 1) := by
    rw [Nat.pow_succ, ← Nat.mul_assoc B, Nat.mul_left_comm _ 2 C]
    omega
  have nl : (nextL L O (a / b)).length ≤ L.length := by
    refine Nat.le_trans (trim_len _) ?_
    have := trim_len (sclL (-1) (List.replicate (L.length - O.length) 0 ++ sclL (a / b) O))
    rw [sclL_len, List.length_append, List.length_replicate, sclL_len] at this
    rw [addL_len]
    omega
  refine ⟨⟨by rw [List.length_set]; exact h.wl, ?_, ?_, row_trim _, by omega, fun i hi => ?_, fun x => ?_⟩, hat, nl⟩
  · refine Ce.setL ?_ ?_
    · have h2 := h.cw.wide (F := m.natAbs)
      rw [hE] at h2
      refine h2.up ?_
      rw [← hB, Nat.mul_right_comm]
      refine Nat.mul_le_mul_right F ?_
      exact Nat.le_trans (Nat.mul_le_mul_left _ hmC) (Nat.le_add_right _ _)
    · refine c1.up ?_
      refine Nat.mul_le_mul_right F ?_
      rw [← hB]
      have : 0 < C := by omega
      have := Nat.mul_le_mul_left (B * (2 * C) ^ k) this
      omega
  · rw [← hB]
    exact (cL.add ((Ce.append .zeros cO).neg.trim)).trim
  · rw [lo] at hi
    rw [getD_set _ _ _ _ (by omega)]
    exact h.z i (by rw [la, lo]; omega)
  · have h1 := h.eq x
    have hz := h.z (L.length - O.length) (by rw [la, lo]; omega)
    rw [List.getD_eq_getElem?_getD, List.getElem?_eq_getElem hat] at hz
    have hz' : w[L.length - O.length] = 0 := hz
    have ez : ev (List.replicate (L.length - O.length) 0 ++ sclL (a / b) O) x = x ^ (L.length - O.length) * (ev O x * (a / b)) := by rw [ev_append, ev_zeros, List.length_replicate, ev_scl, Rat.zero_add]
    unfold nextL
    rw [ev_trim, ev_add, ev_trim, ev_scl, ez, ev_set _ _ _ _ hat, hz', h1, ev_snoc, ev_snoc]
    have ep : x ^ L.length = x ^ (L.length - O.length) * x ^ O.length := by rw [← rpow_add, Nat.sub_add_cancel hle]
    rw [ep]
    grind
theorem DSt.run {E B F C : Nat} {m : Int} {p O : List Rat} {b : Rat} (hF : 0 < F) (ho : Ce F C (O ++ [b])) (hb : b * (F : Rat) = (m : Rat)) (hm : m ≠ 0) : ∀ (n k : Nat) (w l : List Rat), l.length ≤ n → DSt E B F C m p (O ++ [b]) k w l → ∃ k' w' l', DSt E B F C m p (O ++ [b]) k' w' l' ∧ l'.length < (O ++ [b]).length := by
  intro n
  induction n with
  | zero =>
    intro k w l hl h
    exact ⟨k, w, l, h, by rw [List.length_append]; show l.length < O.length + 1; omega⟩
  | succ n ih =>
    intro k w l hl h
    rcases Nat.lt_or_ge l.length (O ++ [b]).length with h1 | h1
    · exact ⟨k, w, l, h, h1⟩
    · rcases snoc_cases l with rfl | ⟨L, a, rfl⟩
      · exact ⟨k, w, [], h, by rw [List.length_append]; exact Nat.succ_pos _⟩
      · rw [List.length_append, List.length_append] at h1
        have h2 : O.length + 1 ≤ L.length + 1 := h1
        obtain ⟨s, _, hl2⟩ := h.step hF ho hb hm (by omega)
        rw [List.length_append] at hl
        have h3 : L.length + 1 ≤ n + 1 := hl
        exact ih _ _ _ (by omega) s
theorem DSt.dv {E B F C k : Nat} {m : Int} {p o w l : List Rat} (h : DSt E B F C m p o k w l) (hl : l.length < o.length) : Dv p o (trim w) l :=
  ⟨row_trim _, h.rl, hl, fun x => by rw [ev_trim]; exact h.eq x⟩
theorem lead_int {F C : Nat} {O : List Rat} {b : Rat} (hF : 0 < F) (ho : Ce F C (O ++ [b])) (hr : IsRow (O ++ [b])) : ∃ m : Int, b * (F : Rat) = (m : Rat) ∧ m ≠ 0 ∧ m.natAbs ≤ C := by
  obtain ⟨z, e, hz⟩ := ho b (List.mem_append_right _ (List.mem_singleton.mpr rfl))
  refine ⟨z, e, fun z0 => ?_, hz⟩
  rw [z0] at e
  have hF2 : (F : Rat) ≠ 0 := fun e => by
    have h3 : (F : Rat) = ((0 : Nat) : Rat) := e
    have := Rat.natCast_inj.mp h3
    omega
  rcases Rat.mul_eq_zero.mp e with h | h
  · exact snoc_row hr h
  · exact hF2 h
theorem div_ex {p o : List Rat} (hp : IsRow p) (ho : IsRow o) (o0 : o ≠ []) : ∃ w l, Dv p o w l := by
  rcases snoc_cases o with rfl | ⟨O, b, rfl⟩
  · exact absurd rfl o0
  · have az : ∀ l : List Rat, ∃ n, Az n l := fun l => by
      induction l with
      | nil => exact ⟨0, fun q hq => nomatch hq⟩
      | cons a l ih =>
        obtain ⟨n, hn⟩ := ih
        refine ⟨n + a.num.natAbs + a.den, fun q hq => ?_⟩
        rcases List.mem_cons.mp hq with rfl | hq
        · have h1 : q.num.natAbs < 2 ^ q.num.natAbs := Nat.lt_two_pow_self
          have h2 : q.den < 2 ^ q.den := Nat.lt_two_pow_self
          exact ⟨Nat.lt_of_lt_of_le h1 (Nat.pow_le_pow_right (by decide) (by omega)), Nat.lt_of_lt_of_le h2 (Nat.pow_le_pow_right (by decide) (by omega))⟩
        · exact (hn q hq).up (by omega)
    obtain ⟨_, a1⟩ := az p
    obtain ⟨_, a2⟩ := az (O ++ [b])
    obtain ⟨E, B, e0, _, _, e3⟩ := sr_of a1
    obtain ⟨F, C, f0, _, _, f3⟩ := sr_of a2
    obtain ⟨m, hb, hm, _⟩ := lead_int f0 f3 ho
    obtain ⟨k, w, l, h, hl⟩ := DSt.run f0 f3 hb hm p.length 0 _ p (Nat.le_refl _) (.start hp e3)
    exact ⟨_, _, h.dv hl⟩
open Classical in
noncomputable def quo (p o : List Rat) : List Rat := if h : ∃ w l, Dv p o w l then Classical.choose h else []
open Classical in
noncomputable def rem (p o : List Rat) : List Rat := if h : ∃ w l, Dv p o w l then Classical.choose (Classical.choose_spec h) else []
theorem dv_of {p o : List Rat} (hp : IsRow p) (ho : IsRow o) (o0 : o ≠ []) : Dv p o (quo p o) (rem p o) := by
  have h := div_ex hp ho o0
  unfold quo rem
  rw [dif_pos h, dif_pos h]
  exact Classical.choose_spec (Classical.choose_spec h)
theorem Dv.eqs {p o w l : List Rat} (hp : IsRow p) (ho : IsRow o) (h : Dv p o w l) : w = quo p o ∧ l = rem p o := h.uniq ho (dv_of hp ho fun z => by have := h.lt; rw [z] at this; exact absurd this (Nat.not_lt_zero _))
/-- the bits after k steps -/
theorem dst_bits {E B F C a b k : Nat} {m : Int} {p o w l : List Rat} (h : DSt E B F C m p o k w l) (e0 : 0 < E) (e1 : E < 2 ^ a) (e2 : B < 2 ^ a) (f1 : F < 2 ^ b) (f2 : C < 2 ^ b) (hm : m ≠ 0) (hmC : m.natAbs ≤ C) : Sr (a + k * (b + 1)) l ∧ Sr (a + k * (b + 1) + b) w := by
  have pm : 0 < m.natAbs ^ k := Nat.pow_pos (by omega)
  have b1 : m.natAbs ^ k ≤ 2 ^ (k * (b + 1)) := by
    rw [Nat.mul_comm, Nat.pow_mul]
    refine Nat.pow_le_pow_left ?_ k
    have : 2 ^ b ≤ 2 ^ (b + 1) := Nat.pow_le_pow_right (by decide) (by omega)
    omega
  have b2 : (2 * C) ^ k ≤ 2 ^ (k * (b + 1)) := by
    rw [Nat.mul_comm k, Nat.pow_mul]
    refine Nat.pow_le_pow_left ?_ k
    rw [Nat.pow_succ]
    omega
  have b3 : E * m.natAbs ^ k < 2 ^ (a + k * (b + 1)) := by
    rw [Nat.pow_add]
    exact Nat.lt_of_le_of_lt (Nat.mul_le_mul_left _ b1) (Nat.mul_lt_mul_of_pos_right e1 (Nat.two_pow_pos _))
  have b4 : B * (2 * C) ^ k < 2 ^ (a + k * (b + 1)) := by
    rw [Nat.pow_add]
    exact Nat.lt_of_le_of_lt (Nat.mul_le_mul_left _ b2) (Nat.mul_lt_mul_of_pos_right e2 (Nat.two_pow_pos _))
  refine ⟨⟨_, _, Nat.mul_pos e0 pm, b3, b4, h.cl⟩, ⟨_, _, Nat.mul_pos e0 pm, ?_, mul_bits b4 f1, h.cw⟩⟩
  exact Nat.lt_of_lt_of_le b3 (Nat.pow_le_pow_right (by decide) (by omega))
theorem dv_bits {a b d : Nat} {p o : List Rat} (hp : IsRow p) (ho : IsRow o) (o0 : o ≠ []) (sp : Sr a p) (so : Sr b o) (hd : p.length + 1 ≤ o.length + d) : Sr (a + d * (b + 1)) (rem p o) ∧ Sr (a + d * (b + 1) + b) (quo p o) := by
  rcases snoc_cases o with rfl | ⟨O, c, rfl⟩
  · exact absurd rfl o0
  · obtain ⟨E, B, e0, e1, e2, e3⟩ := sp
    obtain ⟨F, C, f0, f1, f2, f3⟩ := so
    obtain ⟨m, hb, hm, hmC⟩ := lead_int f0 f3 ho
    suffices z : ∀ (n k : Nat) (w l : List Rat), l.length ≤ n → DSt E B F C m p (O ++ [c]) k w l → k ≤ d ∨ l.length < (O ++ [c]).length → (k ≤ d) → ∃ k' w' l', DSt E B F C m p (O ++ [c]) k' w' l' ∧ l'.length < (O ++ [c]).length ∧ k' ≤ d by
      obtain ⟨k, w, l, h, hl, hk⟩ := z p.length 0 _ p (Nat.le_refl _) (.start hp e3) (.inl (Nat.zero_le _)) (Nat.zero_le _)
      obtain ⟨s1, s2⟩ := dst_bits h e0 e1 e2 f1 f2 hm hmC
      obtain ⟨q1, q2⟩ := (h.dv hl).eqs hp ho
      have hk2 : k * (b + 1) ≤ d * (b + 1) := Nat.mul_le_mul_right _ hk
      rw [← q1, ← q2]
      exact ⟨s1.up (by omega), (s2.trim).up (by omega)⟩
    intro n
    induction n with
    | zero =>
      intro k w l hl h _ hk
      exact ⟨k, w, l, h, by rw [List.length_append]; show l.length < O.length + 1; omega, hk⟩
    | succ n ih =>
      intro k w l hl h _ hk
      rcases Nat.lt_or_ge l.length (O ++ [c]).length with h1 | h1
      · exact ⟨k, w, l, h, h1, hk⟩
      · rcases snoc_cases l with rfl | ⟨L, a', rfl⟩
        · exact ⟨k, w, [], h, by rw [List.length_append]; exact Nat.succ_pos _, hk⟩
        · have hlk := h.lk
          rw [List.length_append] at hlk h1 hl
          rw [List.length_append] at h1 hd
          have h2 : O.length + 1 ≤ L.length + 1 := h1
          have h3 : L.length + 1 ≤ n + 1 := hl
          have h4 : L.length + 1 + k ≤ p.length := hlk
          have h5 : p.length + 1 ≤ O.length + 1 + d := hd
          obtain ⟨s, _, hl2⟩ := h.step f0 f3 hb hm (by omega)
          exact ih _ _ _ (by omega) s (.inl (by omega)) (by omega)
end DL

set_option linter.all false
set_option autoImplicit false
set_option maxRecDepth 10000
set_option maxHeartbeats 400000
namespace DL
open PySem PySem.Spec L2
local macro_rules | `(tactic| walk_at "dl") => `(tactic| simp -implicitDefEqProofs only [wSeq, wNext, wSet, wSetL, wAsg, wPar, parD, wRet, wExpr, wApp, wSetIx, wIf, wFrz, wRaise, wBreak, wCont, eVar, eC, eOp, tBl, dI, dB, dAdd, dSub, dMul, dFdiv, dMod, dPow, eNeg, dLt, dLe, dGt, dGe, dEq, dNe, dIs, dIsNot, eAnd, eOr, eNot, tAndD, tOrD, tNotD,
  aNil, aCons, eTup, eLst, lLst, eL, dIx, eSl, dSl, oNo, oSome, eCB, cLen, cAbs, cMax, cMin, cTuple, cList, cInt, eIsi, isiD, dName, dTupT, dCons, dNil, eCell, cellP, eIxO, eLenO, eCall, startΓ, startS, List.getElem?_cons_zero, List.getElem?_cons_succ, List.set, List.map, List.length, List.replicate, List.append, List.cons_append, List.nil_append, Nat.sub_self, Nat.reduceAdd, Nat.reduceSub, true_and, ixD_0, ixD_1, ixD_2, ixD_3, ixD_4, ixD_5, ixD_6, ixD_7, ixD_8, ixD_9, ixD_10, ixD_11, ixD_12, ixD_13, ixD_14, ixD_15, ixD_16, ixD_17, ixD_18, ixD_19])
/-! ### rows divided -/
def R_divide (py : Prop) : List D → Res → Prop := fun ds r => ∃ (p o : List Rat) (a b d : Nat), ds = [rowD p, rowD o] ∧ IsRow p ∧ IsRow o ∧ o ≠ [] ∧ Sr a p ∧ Sr b o ∧ p.length ≤ 1000 ∧ o.length ≤ 1000 ∧ p.length + 1 ≤ o.length + d ∧ Lim py (2 * (a + d * (b + 1)) + 3 * b + 2) ∧ r = .ok (.tuple [rowD (quo p o), rowD (rem p o)])
def w_divide (Ex : Nat → Prop) (py : Prop) : DS :=
  (wSeq (wSetL 2 (lRep (eLst (aCons (eC c_NONE) aNil)) (eCB cMax (aCons (eC (.int 0)) (aCons (eOp dAdd (eOp dSub (eCB cLen (aCons (eVar 0) aNil)) (eCB cLen (aCons (eVar 1) aNil))) (eC (.int 1))) aNil)))))
  (wSeq (wSet 3 (eVar 0))
  (wSeq (wWhile (tBl (eOp dGe (eCB cLen (aCons (eVar 3) aNil)) (eCB cLen (aCons (eVar 1) aNil))))
  (wSeq (wSet 4 (eOp dSub (eCB cLen (aCons (eVar 3) aNil)) (eCB cLen (aCons (eVar 1) aNil))))
  (wSeq (wSetIx 2 (eVar 4) (eCall Ex (R_part_of py) (aCons (eOp dIx (eVar 3) (eNeg (eC (.int 1)))) (aCons (eOp dIx (eVar 1) (eNeg (eC (.int 1)))) aNil))))
  (wSeq (wSet 5 (eOp dAdd (eOp dMul (eLst (aCons (eC c_NONE) aNil)) (eVar 4)) (eL (lLc (iTupD (eVar 1)) [6] (dName 6) tYesD (eCall (fun _ => False) (R_product_of py) (aCons (eVar 6) (aCons (eIxO 2 (eVar 4)) aNil)))))))
  (wSet 3 (eCall Ex (R_add py) (aCons (eSl (eVar 3) oNo (oSome (eNeg (eC (.int 1))))) (aCons (eCall Ex (R_trimmed py) (aCons (eL (lLc (iLst (eSl (eVar 5) oNo (oSome (eNeg (eC (.int 1)))))) [6] (dName 6) tYesD (eCall (fun _ => False) (R_fraction py) (aCons (eNeg (eOp dIx (eVar 6) (eC (.int 0)))) (aCons (eOp dIx (eVar 6) (eC (.int 1))) aNil))))) aNil)) aNil))))))))
  (wFrz 2 (wRet (eTup (aCons (eCall Ex (R_trimmed py) (aCons (eVar 2) aNil)) (aCons (eVar 3) aNil))))))))

def w_divided (Ex : Nat → Prop) (py : Prop) : DS :=
  (wSeq (wExpr (eCall Ex (R_need_rows py) (aCons (eLst (aCons (eVar 0) (aCons (eVar 1) aNil))) aNil)))
  (wSeq (wIf (tBl (eOp dEq (eCB cLen (aCons (eVar 1) aNil)) (eC (.int 0))))
  (wRaise Ex 0)
  wNext)
  (wRet (eCall Ex (R_divide py) (aCons (eVar 0) (aCons (eVar 1) aNil))))))

theorem neg_fr (q : Rat) : Rat.divInt (-q.num) (q.den : Int) = q * -1 := by
  have e := Rat.num_divInt_den q
  rw [Rat.divInt_eq_div] at e ⊢
  rw [Rat.intCast_neg]
  have : -(q.num : Rat) / ((q.den : Int) : Rat) = -((q.num : Rat) / ((q.den : Int) : Rat)) := by grind
  rw [this, e]
  grind
theorem max0 (m n : Nat) : (if ((m : Int) - (n : Int) + 1) > 0 then ((m : Int) - (n : Int) + 1) else 0) = ((m + 1 - n : Nat) : Int) := by split <;> omega
theorem map_snoc (l : List Rat) (a : Rat) : (l ++ [a]).map frD = l.map frD ++ [frD a] := by rw [List.map_append]; rfl
theorem den_log {q : Rat} {m : Nat} (h : Sz m q) (py : Prop) (hl : m < 9000 ∨ py) : (q.den : Int).natAbs.log2 < 9000 ∨ py := by
  refine hl.imp (fun z => ?_) id
  rw [Int.natAbs_natCast, Nat.log2_lt (by have := q.den_pos; omega)]
  exact Nat.lt_of_lt_of_le h.2 (Nat.pow_le_pow_right (by decide) (Nat.le_of_lt z))
theorem az_neg {m : Nat} {l : List Rat} (h : Az m l) : Az m (sclL (-1) l) := fun x hx => by
  obtain ⟨q, hq, rfl⟩ := List.mem_map.mp hx
  have e : q * -1 = -q := by grind
  have := h q hq
  rw [e]
  exact ⟨by rw [Rat.neg_num, Int.natAbs_neg]; exact this.1, by rw [Rat.neg_den]; exact this.2⟩
theorem set_getD (w : List Rat) {i : Nat} (c : Rat) (h : i < w.length) : (w.set i c)[i]? = some c := List.getElem?_set_self h
theorem az_sr_mem {m : Nat} {w : List Rat} {c : Rat} (h : Sr m w) (hc : c ∈ w) : Sz m c := h.az c hc
theorem pure_divide (py : Prop) (ds : List D) (r : Res) (h : R_divide py ds r) : w_divide (fun g => r = .err g) py (endsOf r) (startΓ ["one", "other", "whole", "left", "at", "piece", "part"] ds) := by
  obtain ⟨p, o, a, b, d, rfl, hp, ho, o0, sp, so, lp, lo, hd, hl, rfl⟩ := h
  have azo := so.az
  rcases snoc_cases o with rfl | ⟨O, c, rfl⟩
  · exact absurd rfl o0
  obtain ⟨E, B, e0, e1, e2, e3⟩ := sp
  obtain ⟨F, C, f0, f1, f2, f3⟩ := so
  obtain ⟨m, hb, hm, hmC⟩ := lead_int f0 f3 ho
  have lO : (O ++ [c]).length = O.length + 1 := by rw [List.length_append]; rfl
  unfold w_divide
  refine seq_go fun nx hnx => ?_
  unfold lRep dRepL c_NONE rowD
  walk_at "dl"
  rw [List.length_map, List.length_map, max0, Int.toNat_natCast, rep_flat]
  refine ⟨⟨by omega, by omega, line_le (by show 1 * _ ≤ _; omega)⟩, hnx _ ?_⟩
  refine seq_go fun nx hnx => ?_
  walk_at "dl"
  refine hnx _ ?_
  refine seq_go fun nx hnx => ?_
  refine wh_inv (fun (n : Nat) (Γ : Ct) => ∃ (k : Nat) (w l : List Rat) (x4 x5 : En), l.length = n ∧ DSt E B F C m p (O ++ [c]) k w l ∧ k ≤ d ∧ Γ = [.im (rowD p), .im (rowD (O ++ [c])), .own (w.map frD), .im (rowD l), x4, x5, .no] ∧ (∀ ds, x4 ≠ .own ds) ∧ (∀ ds, x5 ≠ .own ds)) (fun n nx' Γ hn' hI => ?_) (n := p.length) ⟨0, _, p, .no, .no, rfl, .start hp e3, Nat.zero_le _, rfl, (fun _ z => nomatch z), (fun _ z => nomatch z)⟩
  obtain ⟨k, w, l, x4, x5, rfl, hS, hk, rfl, _, _⟩ := hI
  show (match decide (((((O ++ [c]).map frD).length : Nat) : Int) ≤ (((l.map frD).length : Nat) : Int)) with
    | true => _
    | false => nx _)
  rw [List.length_map, List.length_map]
  rcases Nat.lt_or_ge l.length (O ++ [c]).length with h1 | h1
  · rw [decide_eq_false (by omega)]
    refine hnx _ ?_
    obtain ⟨q1, q2⟩ := (hS.dv h1).eqs hp ho
    walk_at "dl"
    refine call_ok ⟨w, rfl, rfl⟩ ?_
    rw [← q1, ← q2]
  · rw [decide_eq_true (by omega)]
    rcases snoc_cases l with rfl | ⟨L, t, rfl⟩
    · rw [lO] at h1; exact absurd h1 (Nat.not_succ_le_zero _)
    · have lL : (L ++ [t]).length = L.length + 1 := by rw [List.length_append]; rfl
      have hlk := hS.lk
      rw [lL] at hlk
      have hle : O.length ≤ L.length := by omega
      obtain ⟨hS', hat, hnl⟩ := hS.step f0 f3 hb hm hle
      have hk' : k + 1 ≤ d := by omega
      obtain ⟨sl, sw⟩ := dst_bits hS e0 e1 e2 f1 f2 hm hmC
      obtain ⟨sl', sw'⟩ := dst_bits hS' e0 e1 e2 f1 f2 hm hmC
      have kb : (k + 1) * (b + 1) ≤ d * (b + 1) := Nat.mul_le_mul_right _ hk'
      have kb0 : k * (b + 1) ≤ (k + 1) * (b + 1) := Nat.mul_le_mul_right _ (by omega)
      generalize hX : a + d * (b + 1) = X at hl
      have gl : Sz X t := (sl.up (by omega)).az t (List.mem_append_right _ (List.mem_singleton.mpr rfl))
      have gL : Az X L := fun q hq => (sl.up (by omega)).az q (List.mem_append_left _ hq)
      have gc : Sz b c := azo c (List.mem_append_right _ (List.mem_singleton.mpr rfl))
      have gO : Az b O := fun q hq => azo q (List.mem_append_left _ hq)
      have c0 : c ≠ 0 := snoc_row ho
      have gq : Sz (X + b) (t / c) := (sw'.up (by omega)).az _ (List.mem_iff_getElem?.mpr ⟨_, set_getD w (t / c) hat⟩)
      have e_at : ((L ++ [t]).length : Int) - ((O ++ [c]).length : Int) = ((L.length - O.length : Nat) : Int) := by rw [lL, lO]; omega
      -- at
      refine seq_go fun nx2 hnx2 => ?_
      unfold rowD
      walk_at "dl"
      rw [List.length_map, List.length_map, e_at]
      refine hnx2 _ ?_
      -- whole[at]
      refine seq_go fun nx2 hnx2 => ?_
      walk_at "dl"
      rw [map_snoc, map_snoc]
      show ixD (L.map frD ++ [frD t]) (-1) _
      rw [ixD_last]
      show ixD (O.map frD ++ [frD c]) (-1) _
      rw [ixD_last]
      refine call_ok ⟨t, c, X, b, rfl, gl, gc, hl.low (by omega), by rw [if_neg c0]⟩ ?_
      rw [ixN_nat (by rw [List.length_map]; exact hat)]
      dsimp only
      rw [set_map]
      refine hnx2 _ ?_
      generalize hw' : w.set (L.length - O.length) (t / c) = w' at hS' sw'
      have gw' : w'[L.length - O.length]? = some (t / c) := by rw [← hw']; exact set_getD w (t / c) hat
      -- the piece
      refine seq_go fun nx2 hnx2 => ?_
      unfold lLc iTupD c_NONE
      walk_at "dl"
      rw [Int.toNat_natCast, rep_flat, ← map_snoc]
      refine ⟨⟨by omega, by omega, line_le (by show 1 * _ ≤ _; omega)⟩, rfl, ?_⟩
      refine lc_get _ ((sclL (t / c) (O ++ [c])).map frD) [] (by rw [List.length_map, List.length_map, sclL_len]) (fun i d' y hd' hy Q R hQ => ?_) (by rw [List.length_map, lO]; exact line_le (by show 0 + (O.length + 1) ≤ _; omega)) ?_
      · rw [List.getElem?_map] at hd'
        obtain ⟨z, hz, rfl⟩ := Option.map_eq_some_iff.mp hd'
        have e : (sclL (t / c) (O ++ [c]))[i]? = some (z * (t / c)) := by unfold sclL; rw [List.getElem?_map, hz]; rfl
        rw [map_get _ e] at hy
        cases hy
        unfold tYesD
        show eCall (fun _ => False) (R_product_of py) (aCons (eVar 6) (aCons (eIxO 2 (eVar 4)) aNil)) [.im (.tuple (p.map frD)), .im (.tuple (O.map frD ++ [frD c])), .own (w'.map frD), .im (.tuple (L.map frD ++ [frD t])), .im (.int ((L.length - O.length : Nat) : Int)), x5, .im (frD z)] Q
        walk_at "dl"
        refine ixD_at _ rfl (map_get _ gw') ?_
        exact call_ok ⟨z, t / c, b, X + b, rfl, azo z (List.mem_of_getElem? hz), gq, hl.low (by omega), rfl⟩ hQ
      · rw [List.nil_append]
        have ls : (sclL (t / c) (O ++ [c])).length = O.length + 1 := by rw [sclL_len, lO]
        refine ⟨line_le (by rw [List.length_map, List.length_map, List.length_replicate, ls]; omega), hnx2 _ ?_⟩
        rw [← List.map_append]
        have es : List.replicate (L.length - O.length) 0 ++ sclL (t / c) (O ++ [c]) = (List.replicate (L.length - O.length) 0 ++ sclL (t / c) O) ++ [c * (t / c)] := by
          unfold sclL
          rw [List.map_append, List.append_assoc]
          rfl
        rw [es]
        try rw [map_snoc O]
        generalize hM : List.replicate (L.length - O.length) 0 ++ sclL (t / c) O = M
        rw [map_snoc M]
        have gM : Az (b + (X + b)) M := by rw [← hM]; exact az_pad (az_scl gO gq) (by have := sr_pos (l := O ++ [c]) ⟨F, C, f0, f1, f2, f3⟩; omega) _
        have lM : M.length ≤ L.length := by rw [← hM, List.length_append, List.length_replicate, sclL_len]; omega
        unfold lLc iLst
        walk_at "dl"
        rw [cutD_but, cutD_but]
        refine ⟨rfl, ?_⟩
        refine lc_get _ ((sclL (-1) M).map frD) [] (by rw [List.length_map, List.length_map, sclL_len]) (fun i d' y hd' hy Q R hQ => ?_) (by rw [List.length_map]; exact line_le (by show 0 + M.length ≤ _; omega)) ?_
        · rw [List.getElem?_map] at hd'
          obtain ⟨z, hz, rfl⟩ := Option.map_eq_some_iff.mp hd'
          have e : (sclL (-1) M)[i]? = some (z * -1) := by unfold sclL; rw [List.getElem?_map, hz]; rfl
          rw [map_get _ e] at hy
          cases hy
          have gz := gM z (List.mem_of_getElem? hz)
          unfold tYesD
          show eCall (fun _ => False) (R_fraction py) (aCons (eNeg (eOp dIx (eVar 6) (eC (.int 0)))) (aCons (eOp dIx (eVar 6) (eC (.int 1))) aNil)) [.im (.tuple (p.map frD)), .im (.tuple (O.map frD ++ [frD c])), .own (w'.map frD), .im (.tuple (L.map frD ++ [frD t])), .im (.int ((L.length - O.length : Nat) : Int)), _, .im (frD z)] Q
          unfold frD
          walk_at "dl"
          refine call_ok (d := frD (z * -1)) ⟨-z.num, (z.den : Int), rfl, den_log gz py (hl.low (by omega)).2, ?_⟩ ?_
          · rw [if_neg (by have := z.den_pos; omega), neg_fr]
          · exact hQ
        · rw [List.nil_append]
          refine call_ok ⟨sclL (-1) M, rfl, rfl⟩ ?_
          have lt := trim_len (sclL (-1) M)
          rw [sclL_len] at lt
          refine call_ok ⟨L, trim (sclL (-1) M), X, b + (X + b), rfl, gL, az_trim (az_neg gM), ?_, hl.low (by omega), by omega, by omega, rfl⟩ ?_
          · have := sr_pos (l := O ++ [c]) ⟨F, C, f0, f1, f2, f3⟩
            have : d * (b + 1) ≥ 1 * 1 := Nat.mul_le_mul (by omega) (by omega)
            omega
          · refine hn' (nextL L O (t / c)).length _ (by rw [lL]; omega) ⟨k + 1, w', nextL L O (t / c), .im (.int ((L.length - O.length : Nat) : Int)), .im (.list (M.map frD ++ [frD (c * (t / c))])), rfl, hS', hk', ?_, (fun _ z => nomatch z), (fun _ z => nomatch z)⟩
            unfold nextL
            rw [hM]
            unfold rowD
            rw [map_snoc]

def R_divided (py : Prop) : List D → Res → Prop := fun ds r => ∃ d e, ds = [d, e] ∧ (((isRow d && isRow e) = false ∧ r = .err 1) ∨ (isRow d = true ∧ isRow e = true ∧ e = .tuple [] ∧ r = .err 0) ∨ ∃ (p o : List Rat) (a b k : Nat), d = rowD p ∧ e = rowD o ∧ IsRow p ∧ IsRow o ∧ o ≠ [] ∧ Sr a p ∧ Sr b o ∧ p.length ≤ 1000 ∧ o.length ≤ 1000 ∧ p.length + 1 ≤ o.length + k ∧ Lim py (2 * (a + k * (b + 1)) + 3 * b + 2) ∧ r = .ok (.tuple [rowD (quo p o), rowD (rem p o)]))
theorem pure_divided (py : Prop) (ds : List D) (r : Res) (h : R_divided py ds r) : w_divided (fun g => r = .err g) py (endsOf r) (startΓ ["one", "other"] ds) := by
  obtain ⟨d, e, rfl, h⟩ := h
  unfold w_divided
  refine seq_go fun nx hnx => ?_
  walk_at "dl"
  rcases h with ⟨h1, rfl⟩ | ⟨h1, h2, rfl, rfl⟩ | ⟨p, o, a, b, k, rfl, rfl, r1, r2, o0, h1, h2, h3, h5, h6, h7, rfl⟩
  · exact call_err 1 ⟨_, rfl, by rw [need_two, h1]; rfl⟩ rfl
  · refine call_ok ⟨_, rfl, by rw [need_two, h1, h2]; rfl⟩ (hnx _ ?_)
    refine seq_go fun nx hnx => ?_
    rfl
  · refine call_ok ⟨_, rfl, by rw [need_two, isRow_rowD r1, isRow_rowD r2]; rfl⟩ (hnx _ ?_)
    refine seq_go fun nx hnx => ?_
    have l0 : 0 < o.length := List.length_pos_iff.mpr o0
    show (match decide (((o.map frD).length : Int) = 0) with
      | true => _
      | false => nx _)
    rw [List.length_map, decide_eq_false (by omega)]
    refine hnx _ ?_
    walk_at "dl"
    exact call_ok ⟨p, o, a, b, k, rfl, r1, r2, o0, h1, h2, h3, h5, h6, h7, rfl⟩ rfl
end DL

set_option linter.all false
set_option autoImplicit false
set_option maxRecDepth 10000
set_option maxHeartbeats 400000
namespace DL
open PySem PySem.Spec L2
local macro_rules | `(tactic| walk_at "dl") => `(tactic| simp -implicitDefEqProofs only [wSeq, wNext, wSet, wSetL, wAsg, wPar, parD, wRet, wExpr, wApp, wSetIx, wIf, wFrz, wRaise, wBreak, wCont, eVar, eC, eOp, tBl, dI, dB, dAdd, dSub, dMul, dFdiv, dMod, dPow, eNeg, dLt, dLe, dGt, dGe, dEq, dNe, dIs, dIsNot, eAnd, eOr, eNot, tAndD, tOrD, tNotD,
  aNil, aCons, eTup, eLst, lLst, eL, dIx, eSl, dSl, oNo, oSome, eCB, cLen, cAbs, cMax, cMin, cTuple, cList, cInt, eIsi, isiD, dName, dTupT, dCons, dNil, eCell, cellP, eIxO, eLenO, eCall, startΓ, startS, List.getElem?_cons_zero, List.getElem?_cons_succ, List.set, List.map, List.length, List.replicate, List.append, List.cons_append, List.nil_append, Nat.sub_self, Nat.reduceAdd, Nat.reduceSub, true_and, ixD_0, ixD_1, ixD_2, ixD_3, ixD_4, ixD_5, ixD_6, ixD_7, ixD_8, ixD_9, ixD_10, ixD_11, ixD_12, ixD_13, ixD_14, ixD_15, ixD_16, ixD_17, ixD_18, ixD_19])
/-! ### what rows share: the program's scale, and the law's own division -/
def R_scale (py : Prop) : List D → Res → Prop := R__law_scale py
def w_scale (Ex : Nat → Prop) (py : Prop) : DS :=
  (wRet (eCall Ex (R_trimmed py) (aCons (eL (lLc (iTupD (eVar 0)) [2] (dName 2) tYesD (eCall (fun _ => False) (R_product_of py) (aCons (eVar 2) (aCons (eVar 1) aNil))))) aNil)))

def w__law_divide (Ex : Nat → Prop) (py : Prop) : DS :=
  (wSeq (wSet 2 (eTup aNil))
  (wSeq (wWhile (tBl (eOp dGe (eCB cLen (aCons (eVar 0) aNil)) (eCB cLen (aCons (eVar 1) aNil))))
  (wSeq (wSet 3 (eCall Ex (R__law_fraction py) (aCons (eOp dMul (eOp dIx (eOp dIx (eVar 0) (eNeg (eC (.int 1)))) (eC (.int 0))) (eOp dIx (eOp dIx (eVar 1) (eNeg (eC (.int 1)))) (eC (.int 1)))) (aCons (eOp dMul (eOp dIx (eOp dIx (eVar 0) (eNeg (eC (.int 1)))) (eC (.int 1))) (eOp dIx (eOp dIx (eVar 1) (eNeg (eC (.int 1)))) (eC (.int 0)))) aNil))))
  (wSeq (wSet 4 (eOp dAdd (eOp dMulT (eTup (aCons (eTup (aCons (eC (.int 0)) (aCons (eC (.int 1)) aNil))) aNil)) (eOp dSub (eCB cLen (aCons (eVar 0) aNil)) (eCB cLen (aCons (eVar 1) aNil)))) (eTup (aCons (eVar 3) aNil))))
  (wSeq (wSet 2 (eCall Ex (R__law_plus py) (aCons (eVar 2) (aCons (eVar 4) aNil))))
  (wSet 0 (eCall Ex (R__law_plus py) (aCons (eVar 0) (aCons (eCall Ex (R__law_scale py) (aCons (eCall Ex (R__law_times py) (aCons (eVar 4) (aCons (eVar 1) aNil))) (aCons (eTup (aCons (eNeg (eC (.int 1))) (aCons (eC (.int 1)) aNil))) aNil))) aNil))))))))
  (wRet (eTup (aCons (eVar 2) (aCons (eVar 0) aNil))))))

theorem pure_scale (py : Prop) (ds : List D) (r : Res) (h : R_scale py ds r) : w_scale (fun g => r = .err g) py (endsOf r) (startΓ ["row", "number", "part"] ds) := by
  obtain ⟨p, c, m, n, rfl, hp, hc, hl, lp, rfl⟩ := h
  unfold w_scale rowD
  unfold lLc iTupD
  walk_at "dl"
  refine ⟨rfl, ?_⟩
  refine lc_get _ ((sclL c p).map frD) [] (by rw [List.length_map, List.length_map]; unfold sclL; rw [List.length_map]) (fun i d y hd hy Q R hQ => ?_) (by rw [List.length_map]; exact line_le (by show 0 + p.length ≤ _; omega)) ?_
  · rw [List.getElem?_map] at hd
    obtain ⟨a, ha, rfl⟩ := Option.map_eq_some_iff.mp hd
    have e : (sclL c p)[i]? = some (a * c) := by unfold sclL; rw [List.getElem?_map, ha]; rfl
    rw [map_get _ e] at hy
    cases hy
    unfold tYesD
    show eCall _ _ (aCons (eVar 2) (aCons (eVar 1) aNil)) [.im (.tuple (p.map frD)), .im (frD c), .im (frD a)] Q
    walk_at "dl"
    exact call_ok ⟨a, c, m, n, rfl, hp a (List.mem_of_getElem? ha), hc, hl, rfl⟩ hQ
  · rw [List.nil_append]
    exact call_ok ⟨sclL c p, rfl, rfl⟩ rfl
def R__law_divide (py : Prop) : List D → Res → Prop := fun ds r => ∃ (p o : List Rat) (a b d : Nat), ds = [rowD p, rowD o] ∧ IsRow p ∧ IsRow o ∧ o ≠ [] ∧ Sr a p ∧ Sr b o ∧ p.length ≤ 200 ∧ o.length ≤ 200 ∧ p.length + 1 ≤ o.length + d ∧ Lim py (2 * (a + d * (b + 1)) + 4 * b + 60) ∧ r = .ok (.tuple [rowD (quo p o), rowD (rem p o)])
theorem sr_single {m : Nat} {c : Rat} (h : Sz m c) (k : Nat) : Sr m (List.replicate k 0 ++ [c]) :=
  ⟨c.den, c.num.natAbs, c.den_pos, h.2, h.1, .append .zeros (.cons (ib_of c) .nil)⟩
theorem rowD_single (k : Nat) (c : Rat) : PyData.tuple ((List.replicate k 0).map frD ++ [frD c]) = rowD (List.replicate k 0 ++ [c]) := by
  unfold rowD
  rw [map_snoc]
theorem pure__law_divide (py : Prop) (ds : List D) (r : Res) (h : R__law_divide py ds r) : w__law_divide (fun g => r = .err g) py (endsOf r) (startΓ ["_law_one", "_law_other", "_law_whole_here", "_law_by", "_law_piece"] ds) := by
  obtain ⟨p, o, a, b, d, rfl, hp, ho, o0, sp, so, lp, lo, hd, hl, rfl⟩ := h
  have azo := so.az
  have so' := so
  rcases snoc_cases o with rfl | ⟨O, c, rfl⟩
  · exact absurd rfl o0
  obtain ⟨E, B, e0, e1, e2, e3⟩ := sp
  obtain ⟨F, C, f0, f1, f2, f3⟩ := so
  obtain ⟨m, hb, hm, hmC⟩ := lead_int f0 f3 ho
  have lO : (O ++ [c]).length = O.length + 1 := by rw [List.length_append]; rfl
  have pb : 0 < b := sr_pos so'
  unfold w__law_divide
  refine seq_go fun nx hnx => ?_
  walk_at "dl"
  refine hnx _ ?_
  refine seq_go fun nx hnx => ?_
  refine wh_inv (fun (n : Nat) (Γ : Ct) => ∃ (k : Nat) (w l : List Rat) (x3 x4 : En), l.length = n ∧ DSt E B F C m p (O ++ [c]) k w l ∧ k ≤ d ∧ Γ = [.im (rowD l), .im (rowD (O ++ [c])), .im (rowD (trim w)), x3, x4]) (fun n nx' Γ hn' hI => ?_) (n := p.length) ⟨0, _, p, .no, .no, rfl, .start hp e3, Nat.zero_le _, ?_⟩
  · obtain ⟨k, w, l, x3, x4, rfl, hS, hk, rfl⟩ := hI
    show (match decide (((((O ++ [c]).map frD).length : Nat) : Int) ≤ (((l.map frD).length : Nat) : Int)) with
      | true => _
      | false => nx _)
    rw [List.length_map, List.length_map]
    rcases Nat.lt_or_ge l.length (O ++ [c]).length with h1 | h1
    · rw [decide_eq_false (by omega)]
      refine hnx _ ?_
      obtain ⟨q1, q2⟩ := (hS.dv h1).eqs hp ho
      rw [← q1, ← q2]
      rfl
    · rw [decide_eq_true (by omega)]
      rcases snoc_cases l with rfl | ⟨L, t, rfl⟩
      · rw [lO] at h1; exact absurd h1 (Nat.not_succ_le_zero _)
      · have lL : (L ++ [t]).length = L.length + 1 := by rw [List.length_append]; rfl
        have hlk := hS.lk
        rw [lL] at hlk
        have hle : O.length ≤ L.length := by omega
        obtain ⟨hS', hat, hnl⟩ := hS.step f0 f3 hb hm hle
        have hk' : k + 1 ≤ d := by omega
        obtain ⟨sl, sw⟩ := dst_bits hS e0 e1 e2 f1 f2 hm hmC
        obtain ⟨sl', sw'⟩ := dst_bits hS' e0 e1 e2 f1 f2 hm hmC
        have kb : (k + 1) * (b + 1) ≤ d * (b + 1) := Nat.mul_le_mul_right _ hk'
        have kb0 : k * (b + 1) ≤ (k + 1) * (b + 1) := Nat.mul_le_mul_right _ (by omega)
        generalize hX : a + d * (b + 1) = X at hl
        have gll : Az X (L ++ [t]) := (sl.up (by omega)).az
        have gl : Sz X t := gll t (List.mem_append_right _ (List.mem_singleton.mpr rfl))
        have gc : Sz b c := azo c (List.mem_append_right _ (List.mem_singleton.mpr rfl))
        have c0 : c ≠ 0 := snoc_row ho
        have gw : Az (X + b) (trim w) := az_trim (sw.up (by omega)).az
        have gq : Sz (X + b) (t / c) := (sw'.up (by omega)).az _ (List.mem_iff_getElem?.mpr ⟨_, set_getD w (t / c) hat⟩)
        have e_at : ((L ++ [t]).length : Int) - ((O ++ [c]).length : Int) = ((L.length - O.length : Nat) : Int) := by rw [lL, lO]; omega
        have wl := hS.wl
        have ltw := trim_len w
        rw [lO] at wl
        -- by
        refine seq_go fun nx2 hnx2 => ?_
        unfold rowD
        walk_at "dl"
        rw [map_snoc, map_snoc]
        show ixD (L.map frD ++ [frD t]) (-1) _
        rw [ixD_last]
        show ixD (O.map frD ++ [frD c]) (-1) _
        rw [ixD_last]
        show _ ∧ ixD (L.map frD ++ [frD t]) (-1) _
        rw [ixD_last]
        show _ ∧ ixD (O.map frD ++ [frD c]) (-1) _
        rw [ixD_last]
        have cn : c.num ≠ 0 := fun z => c0 (Rat.num_eq_zero.mp z)
        refine And.intro (mulx_of gl.1 gc.dn (hl.low (by omega)).1) (And.intro (mulx_of gl.dn gc.1 (hl.low (by omega)).1) ?_)
        refine call_ok (d := frD (t / c)) ⟨_, _, rfl, log_mul gl.dn gc.1 py (hl.low (by omega)).2, Int.mul_ne_zero (by have := t.den_pos; omega) cn, by rw [rat_part]⟩ ?_
        refine hnx2 _ ?_
        -- the piece
        refine seq_go fun nx2 hnx2 => ?_
        unfold rowD dMulT
        walk_at "dl"
        rw [← map_snoc, ← map_snoc, List.length_map, List.length_map, e_at, Int.toNat_natCast, rep_flat]
        refine ⟨⟨by simp, by omega, by omega, by decide⟩, line_le (by rw [List.length_map, List.length_replicate]; show _ + 1 ≤ _; omega), ?_⟩
        rw [rowD_single]
        refine hnx2 _ ?_
        generalize hP : List.replicate (L.length - O.length) 0 ++ [t / c] = P
        have gP : Sr (X + b) P := by rw [← hP]; exact sr_single gq _
        have lP : P.length ≤ 200 := by rw [← hP, List.length_append, List.length_replicate]; show _ + 1 ≤ _; omega
        have evP : ∀ x, ev P x = x ^ (L.length - O.length) * (t / c) := fun x => by rw [← hP, ev_append, ev_zeros, List.length_replicate, ev_cons, ev_nil]; grind
        -- the whole
        refine seq_go fun nx2 hnx2 => ?_
        walk_at "dl"
        refine call_ok ⟨trim w, P, X + b, X + b, rfl, gw, gP.az, by omega, by omega, hl.low (by omega), by omega, by omega, rfl⟩ (hnx2 _ ?_)
        -- what is left
        walk_at "dl"
        refine call_ok ⟨P, O ++ [c], X + b, b, rfl, gP, so', hl.low (by omega), by omega, by omega, rfl⟩ ?_
        have gM : Sr (X + b + b + 9) (trim (mulL P (O ++ [c]))) := (gP.mul so' (k := 9) (by omega)).trim
        have lM := trim_len (mulL P (O ++ [c]))
        have lM2 := mulL_len P (O ++ [c])
        refine call_ok ⟨trim (mulL P (O ++ [c])), -1, X + b + b + 9, 1, rfl, gM.az, ⟨by decide, by decide⟩, hl.low (by omega), by omega, rfl⟩ ?_
        have lN := trim_len (sclL (-1) (trim (mulL P (O ++ [c]))))
        rw [sclL_len] at lN
        refine call_ok ⟨L ++ [t], trim (sclL (-1) (trim (mulL P (O ++ [c])))), X, X + b + b + 9 + 1, rfl, gll, az_trim (az_scl gM.az ⟨by decide, by decide⟩), ?_, by omega, hl.low (by omega), by omega, by omega, rfl⟩ ?_
        · have : 1 * 1 ≤ d * (b + 1) := Nat.mul_le_mul (by omega) (by omega)
          omega
        · have el : trim (addL (L ++ [t]) (trim (sclL (-1) (trim (mulL P (O ++ [c])))))) = nextL L O (t / c) := by
            refine row_ext (row_trim _) (row_trim _) fun x => ?_
            have h1 := hS.eq x
            have h2 := hS'.eq x
            have hz := hS.z (L.length - O.length) (by rw [lL, lO]; omega)
            rw [List.getD_eq_getElem?_getD, List.getElem?_eq_getElem hat] at hz
            have hz' : w[L.length - O.length] = 0 := hz
            rw [ev_set _ _ _ _ hat, hz'] at h2
            have h3 : ev (nextL L O (t / c)) x = ev (L ++ [t]) x - x ^ (L.length - O.length) * (t / c) * ev (O ++ [c]) x := by grind
            rw [h3, ev_trim, ev_add, ev_trim, ev_scl, ev_trim, ev_mul, evP]
            grind
          have ew : trim (addL (trim w) P) = trim (w.set (L.length - O.length) (t / c)) := trim_ext _ _ fun x => by
            have hz := hS.z (L.length - O.length) (by rw [lL, lO]; omega)
            rw [List.getD_eq_getElem?_getD, List.getElem?_eq_getElem hat] at hz
            have hz' : w[L.length - O.length] = 0 := hz
            rw [ev_add, ev_trim, evP, ev_set _ _ _ _ hat, hz']
            grind
          rw [el, ew]
          exact hn' (nextL L O (t / c)).length _ (by rw [lL]; omega) ⟨k + 1, _, nextL L O (t / c), .im (frD (t / c)), .im (rowD P), rfl, hS', hk', rfl⟩
  · rw [trim_zeros _ fun a ha => (List.mem_replicate.mp ha).2]
    rfl
end DL

set_option linter.all false
set_option autoImplicit false
namespace DL
/-! ### what rows share -/
def Dvd (g p : List Rat) : Prop := ∃ u : List Rat, ∀ x, ev p x = ev u x * ev g x
theorem Dvd.refl (g : List Rat) : Dvd g g := ⟨[1], fun x => by rw [ev_cons, ev_nil]; grind⟩
theorem Dvd.nil (g : List Rat) : Dvd g [] := ⟨[], fun x => by rw [ev_nil]; grind⟩
theorem Dvd.rem {g p : List Rat} (hp : IsRow p) (hg : IsRow g) (g0 : g ≠ []) (h : Dvd g p) : rem p g = [] := by
  obtain ⟨u, hu⟩ := h
  have dv : Dv p g (trim u) [] := ⟨row_trim _, row_nil, List.length_pos_iff.mpr g0, fun x => by rw [ev_trim, ev_nil, hu]; grind⟩
  exact (dv.eqs hp hg).2.symm
abbrev T3 := List Rat × List Rat × List Rat
noncomputable def co (a b w : List Rat) : List Rat := trim (addL a (trim (sclL (-1) (trim (mulL w b)))))
noncomputable def eucS (a b : T3) : T3 := (rem a.1 b.1, co a.2.1 b.2.1 (quo a.1 b.1), co a.2.2 b.2.2 (quo a.1 b.1))
open Classical in
noncomputable def euc : Nat → T3 → T3 → T3
  | 0, a, _ => a
  | n + 1, a, b => if b.1 = [] then a else euc n b (eucS a b)
noncomputable def eucT (p q : List Rat) : T3 := euc (q.length + 1) (p, [1], []) (q, [], [1])
theorem ev_co (a b w : List Rat) (x : Rat) : ev (co a b w) x = ev a x - ev w x * ev b x := by
  unfold co
  rw [ev_trim, ev_add, ev_trim, ev_scl, ev_trim, ev_mul]
  grind
/-- a triple of rows: s * p + t * q is r -/
structure Tr (p q : List Rat) (a : T3) : Prop where
  r0 : IsRow a.1
  r1 : IsRow a.2.1
  r2 : IsRow a.2.2
  eq : ∀ x, ev a.2.1 x * ev p x + ev a.2.2 x * ev q x = ev a.1 x
theorem Tr.step {p q : List Rat} {a b : T3} (ha : Tr p q a) (hb : Tr p q b) (h0 : b.1 ≠ []) : Tr p q (eucS a b) := by
  have dv := dv_of ha.r0 hb.r0 h0
  refine ⟨dv.rl, row_trim _, row_trim _, fun x => ?_⟩
  have h1 := ha.eq x
  have h2 := hb.eq x
  have h3 := dv.eq x
  unfold eucS
  dsimp only
  rw [ev_co, ev_co]
  grind
/-- all that divides both divides what they came from -/
def Back (p q : List Rat) (a b : T3) : Prop := ∀ g, Dvd g a.1 → Dvd g b.1 → Dvd g p ∧ Dvd g q
theorem Back.step {p q : List Rat} {a b : T3} (ha : IsRow a.1) (hb : IsRow b.1) (h0 : b.1 ≠ []) (h : Back p q a b) : Back p q b (eucS a b) := fun g h1 h2 => by
  refine h g ?_ h1
  obtain ⟨u, hu⟩ := h1
  obtain ⟨v, hv⟩ := h2
  have dv := dv_of ha hb h0
  refine ⟨addL (mulL (quo a.1 b.1) u) v, fun x => ?_⟩
  have h3 := dv.eq x
  have h4 := hu x
  have h5 : ev (DL.rem a.1 b.1) x = ev v x * ev g x := hv x
  rw [ev_add, ev_mul, h3, h4, h5]
  grind
theorem euc_spec {p q : List Rat} : ∀ (n : Nat) (a b : T3), Tr p q a → Tr p q b → Back p q a b → b.1.length < n → Tr p q (euc n a b) ∧ Dvd (euc n a b).1 p ∧ Dvd (euc n a b).1 q
  | 0, a, b, _, _, _, h => absurd h (Nat.not_lt_zero _)
  | n + 1, a, b, ha, hb, hB, h => by
    rw [euc]
    by_cases h0 : b.1 = []
    · rw [if_pos h0]
      refine ⟨ha, hB _ (.refl _) ?_⟩
      rw [h0]
      exact .nil _
    · rw [if_neg h0]
      have dv := dv_of ha.r0 hb.r0 h0
      refine euc_spec n b (eucS a b) hb (ha.step hb h0) (hB.step ha.r0 hb.r0 h0) ?_
      have := dv.lt
      show (DL.rem a.1 b.1).length < n
      omega
theorem row_one1 : IsRow [1] := row_snoc [] (by decide)
theorem eucT_spec {p q : List Rat} (hp : IsRow p) (hq : IsRow q) : Tr p q (eucT p q) ∧ Dvd (eucT p q).1 p ∧ Dvd (eucT p q).1 q :=
  euc_spec _ _ _ ⟨hp, row_one1, row_nil, fun x => by show ev [1] x * ev p x + ev [] x * ev q x = ev p x; rw [ev_cons, ev_nil]; grind⟩ ⟨hq, row_nil, row_one1, fun x => by show ev [] x * ev p x + ev [1] x * ev q x = ev q x; rw [ev_cons, ev_nil]; grind⟩ (fun g h1 h2 => ⟨h1, h2⟩) (Nat.lt_succ_self _)
/-! sizes of the steps -/
def U (m : Nat) : Nat → Nat
  | 0 => m
  | 1 => 2 * m + 1
  | i + 2 => U m i + 2 * U m (i + 1) + 2
theorem U_succ (m i : Nat) : U m i ≤ U m (i + 1) := by
  match i with
  | 0 => show m ≤ 2 * m + 1; omega
  | i + 1 => show U m (i + 1) ≤ U m i + 2 * U m (i + 1) + 2; omega
theorem U_mono (m : Nat) {i j : Nat} (h : i ≤ j) : U m i ≤ U m j := by
  induction h with
  | refl => exact Nat.le_refl _
  | step _ ih => exact Nat.le_trans ih (U_succ m _)
theorem U_jump (m i : Nat) : ∀ j, U m i + (j + 2) * (U m (i + 1) + 1) ≤ U m (i + 1 + j + 1)
  | 0 => by
    show U m i + 2 * (U m (i + 1) + 1) ≤ U m i + 2 * U m (i + 1) + 2
    omega
  | j + 1 => by
    have h := U_jump m i j
    have e : U m (i + 1 + (j + 1) + 1) = U m (i + 1 + j) + 2 * U m (i + 1 + j + 1) + 2 := rfl
    have h2 := U_mono m (show i + 1 ≤ i + 1 + j + 1 by omega)
    have e2 : (j + 1 + 2) * (U m (i + 1) + 1) = (j + 2) * (U m (i + 1) + 1) + (U m (i + 1) + 1) := by rw [show j + 1 + 2 = (j + 2) + 1 by omega, Nat.succ_mul]
    omega
def W (m : Nat) : Nat → Nat
  | 0 => 2 * U m 1 + 40
  | i + 1 => 2 * W m i + 2 * U m (i + 2) + 40
theorem W_succ (m i : Nat) : W m i ≤ W m (i + 1) := by show W m i ≤ 2 * W m i + _ + _; omega
theorem W_mono (m : Nat) {i j : Nat} (h : i ≤ j) : W m i ≤ W m j := by
  induction h with
  | refl => exact Nat.le_refl _
  | step _ ih => exact Nat.le_trans ih (W_succ m _)
theorem quo_len {p o : List Rat} (hp : IsRow p) (ho : IsRow o) (o0 : o ≠ []) : (quo p o).length ≤ p.length := by
  have dv := dv_of hp ho o0
  rcases Classical.em (quo p o = []) with h | h
  · rw [h]; exact Nat.zero_le _
  · have h1 := mul_row_len dv.rw_ ho h o0
    have h2 : trim (mulL (quo p o) o) = trim (addL p (sclL (-1) (rem p o))) := trim_ext _ _ fun x => by
      have := dv.eq x
      rw [ev_mul, ev_add, ev_scl]
      grind
    rw [h2] at h1
    have h3 := trim_len (addL p (sclL (-1) (rem p o)))
    rw [addL_len, sclL_len] at h3
    have h4 := dv.lt
    have h5 := List.length_pos_iff.mpr h
    have h6 := List.length_pos_iff.mpr o0
    omega
theorem co_len (a b w : List Rat) : (co a b w).length ≤ max a.length (w.length + b.length) := by
  unfold co
  have h1 := trim_len (addL a (trim (sclL (-1) (trim (mulL w b)))))
  have h2 := trim_len (sclL (-1) (trim (mulL w b)))
  have h3 := trim_len (mulL w b)
  have h4 := mulL_len w b
  rw [addL_len] at h1
  rw [sclL_len] at h2
  omega
theorem sz_m1 : Sz 1 (-1) := ⟨by decide, by decide⟩
theorem co_sr {y z : Nat} {a b w : List Rat} (ha : Sr y a) (hb : Sr y b) (hw : Sr z w) (lw : w.length ≤ 1000) : Sr (2 * y + z + 12) (co a b w) := by
  have h1 := (hw.mul hb (k := 10) (by omega)).trim
  have h2 := (h1.scl sz_m1).trim
  exact ((ha.add h2).trim).up (by omega)
/-- the cofactors of both, of y bits and l places -/
structure Cf (y l : Nat) (a b : T3) : Prop where
  s1 : Sr y a.2.1
  s2 : Sr y a.2.2
  s3 : Sr y b.2.1
  s4 : Sr y b.2.2
  l1 : a.2.1.length ≤ l
  l2 : a.2.2.length ≤ l
  l3 : b.2.1.length ≤ l
  l4 : b.2.2.length ≤ l
theorem Cf.up {y y' l l' : Nat} {a b : T3} (h : Cf y l a b) (hy : y ≤ y') (hl : l ≤ l') : Cf y' l' a b :=
  ⟨h.s1.up hy, h.s2.up hy, h.s3.up hy, h.s4.up hy, Nat.le_trans h.l1 hl, Nat.le_trans h.l2 hl, Nat.le_trans h.l3 hl, Nat.le_trans h.l4 hl⟩
theorem Cf.step {y z l k : Nat} {a b : T3} (h : Cf y l a b) (hz : Sr z (quo a.1 b.1)) (hk : (quo a.1 b.1).length ≤ k) (k1 : k ≤ 1000) : Cf (2 * y + z + 12) (k + l) b (eucS a b) := by
  have c1 := co_len a.2.1 b.2.1 (quo a.1 b.1)
  have c2 := co_len a.2.2 b.2.2 (quo a.1 b.1)
  have h1 := h.l1
  have h2 := h.l2
  have h3 := h.l3
  have h4 := h.l4
  exact ⟨h.s3.up (by omega), h.s4.up (by omega), co_sr h.s1 h.s3 hz (by omega), co_sr h.s2 h.s4 hz (by omega), by omega, by omega, by show (co _ _ _).length ≤ _; omega, by show (co _ _ _).length ≤ _; omega⟩
structure Sx (m L : Nat) (a b : T3) (i : Nat) : Prop where
  la : a.1.length + i ≤ L + 1
  lt : b.1.length < a.1.length
  sa : Sr (U m i) a.1
  sb : Sr (U m (i + 1)) b.1
  cf : Cf (W m i) ((i + 2) * (L + 2)) a b
def SzS (m L : Nat) (a b : T3) : Prop := (a.1.length ≤ L ∧ b.1.length ≤ L ∧ Sr m a.1 ∧ Sr m b.1 ∧ Cf 2 1 a b) ∨ ∃ i, Sx m L a b i
theorem SzS.step {m L : Nat} {a b : T3} (hL : L ≤ 100) (ra : IsRow a.1) (rb : IsRow b.1) (h0 : b.1 ≠ []) (h : SzS m L a b) :
    SzS m L b (eucS a b) ∧ ∃ X0 X1 d Y, Sr X0 a.1 ∧ Sr X1 b.1 ∧ a.1.length + 1 ≤ b.1.length + d ∧ X0 + d * (X1 + 1) ≤ U m (L + 1) ∧ X1 ≤ U m (L + 1) ∧ Cf Y ((L + 2) * (L + 2)) a b ∧ Y ≤ W m L ∧ a.1.length ≤ L + 1 ∧ b.1.length ≤ L + 1 := by
  have b1 := List.length_pos_iff.mpr h0
  have dv := dv_of ra rb h0
  have dl : (rem a.1 b.1).length < b.1.length := dv.lt
  have ql := quo_len ra rb h0
  rcases h with ⟨l1, l2, s1, s2, cf⟩ | ⟨i, hx⟩
  · rcases Nat.lt_or_ge b.1.length a.1.length with hlt | hge
    · -- shorter at once
      obtain ⟨j, hj⟩ : ∃ j, a.1.length = b.1.length + (j + 1) := ⟨a.1.length - b.1.length - 1, by omega⟩
      have uj := U_jump m 0 j
      have e1 : U m 0 = m := rfl
      have e2 : U m (0 + 1) = 2 * m + 1 := rfl
      have mon := U_mono m (show 0 + 1 + j + 1 ≤ L + 1 by omega)
      have m1 : (j + 2) * (m + 1) ≤ (j + 2) * (U m (0 + 1) + 1) := Nat.mul_le_mul_left _ (by omega)
      have m2 : m ≤ U m (0 + 1 + j + 1) := U_mono m (Nat.zero_le _)
      obtain ⟨t1, t2⟩ := dv_bits (d := j + 2) ra rb h0 s1 s2 (by omega)
      have wj : 2 * U m (0 + 1 + j + 1) + 40 ≤ W m (0 + 1 + j) := by
        show _ ≤ W m (0 + 1 + j)
        rw [show 0 + 1 + j = j + 1 by omega]
        show 2 * U m (j + 2) + 40 ≤ 2 * W m j + 2 * U m (j + 2) + 40
        omega
      refine ⟨.inr ⟨0 + 1 + j, by omega, dl, s2.up (U_mono m (i := 0) (Nat.zero_le _)), t1.up (by omega), (cf.step t2 ql (by omega)).up (by omega) ?_⟩, m, m, j + 2, 2, s1, s2, by omega, by omega, by omega, cf.up (Nat.le_refl _) ?_, ?_, by omega, by omega⟩
      · have : 3 * (L + 2) ≤ (0 + 1 + j + 2) * (L + 2) := Nat.mul_le_mul_right _ (by omega)
        omega
      · have : 1 * 1 ≤ (L + 2) * (L + 2) := Nat.mul_le_mul (by omega) (by omega)
        omega
      · have := W_mono m (Nat.zero_le L)
        have e : W m 0 = 2 * U m 1 + 40 := rfl
        omega
    · obtain ⟨t1, t2⟩ := dv_bits (d := 1) ra rb h0 s1 s2 (by omega)
      have e2 : U m (0 + 1) = 2 * m + 1 := rfl
      have e3 : W m 0 = 2 * U m (0 + 1) + 40 := rfl
      have mon := U_mono m (show 0 + 1 ≤ L + 1 by omega)
      refine ⟨.inr ⟨0, by omega, dl, s2.up (Nat.le_refl _), t1.up (by omega), (cf.step t2 ql (by omega)).up (by omega) (by omega)⟩, m, m, 1, 2, s1, s2, by omega, by omega, by omega, cf.up (Nat.le_refl _) ?_, ?_, by omega, by omega⟩
      · have : 1 * 1 ≤ (L + 2) * (L + 2) := Nat.mul_le_mul (by omega) (by omega)
        omega
      · have := W_mono m (Nat.zero_le L)
        omega
  · have la := hx.la
    have lt := hx.lt
    obtain ⟨j, hj⟩ : ∃ j, a.1.length = b.1.length + (j + 1) := ⟨a.1.length - b.1.length - 1, by omega⟩
    have uj := U_jump m i j
    have mon := U_mono m (show i + 1 + j + 1 ≤ L + 1 by omega)
    have m1 := U_mono m (show i + 1 ≤ i + 1 + j + 1 by omega)
    obtain ⟨t1, t2⟩ := dv_bits (d := j + 2) ra rb h0 hx.sa hx.sb (by omega)
    have wj : 2 * W m i + 2 * U m (i + 1 + j + 1) + 40 ≤ W m (i + 1 + j) := by
      have h2 := W_mono m (show i ≤ i + j by omega)
      rw [show i + 1 + j = (i + j) + 1 by omega]
      show _ ≤ 2 * W m (i + j) + 2 * U m (i + j + 2) + 40
      rw [show i + j + 1 + 1 = i + j + 2 by omega]
      omega
    have cfl : (i + 2) * (L + 2) ≤ (L + 2) * (L + 2) := Nat.mul_le_mul_right _ (by omega)
    refine ⟨.inr ⟨i + 1 + j, by omega, dl, hx.sb.up (U_mono m (by omega)), t1.up (by omega), (hx.cf.step t2 ql (by omega)).up (by omega) ?_⟩, _, _, j + 2, _, hx.sa, hx.sb, by omega, by omega, by omega, hx.cf.up (Nat.le_refl _) cfl, W_mono m (by omega), by omega, by omega⟩
    have e : (i + 1 + 2) * (L + 2) = (i + 2) * (L + 2) + (L + 2) := by rw [show i + 1 + 2 = (i + 2) + 1 by omega, Nat.succ_mul]
    have : (i + 1 + 2) * (L + 2) ≤ (i + 1 + j + 2) * (L + 2) := Nat.mul_le_mul_right _ (by omega)
    omega
end DL

set_option linter.all false
set_option autoImplicit false
set_option maxRecDepth 10000
set_option maxHeartbeats 400000
namespace DL
open PySem PySem.Spec L2
local macro_rules | `(tactic| walk_at "dl") => `(tactic| simp -implicitDefEqProofs only [wSeq, wNext, wSet, wSetL, wAsg, wPar, parD, wRet, wExpr, wApp, wSetIx, wIf, wFrz, wRaise, wBreak, wCont, eVar, eC, eOp, tBl, dI, dB, dAdd, dSub, dMul, dFdiv, dMod, dPow, eNeg, dLt, dLe, dGt, dGe, dEq, dNe, dIs, dIsNot, eAnd, eOr, eNot, tAndD, tOrD, tNotD,
  aNil, aCons, eTup, eLst, lLst, eL, dIx, eSl, dSl, oNo, oSome, eCB, cLen, cAbs, cMax, cMin, cTuple, cList, cInt, eIsi, isiD, dName, dTupT, dCons, dNil, eCell, cellP, eIxO, eLenO, eCall, startΓ, startS, List.getElem?_cons_zero, List.getElem?_cons_succ, List.set, List.map, List.length, List.replicate, List.append, List.cons_append, List.nil_append, Nat.sub_self, Nat.reduceAdd, Nat.reduceSub, true_and, ixD_0, ixD_1, ixD_2, ixD_3, ixD_4, ixD_5, ixD_6, ixD_7, ixD_8, ixD_9, ixD_10, ixD_11, ixD_12, ixD_13, ixD_14, ixD_15, ixD_16, ixD_17, ixD_18, ixD_19])
/-! ### what rows share -/
def lead (l : List Rat) : Rat := l.getLastD 0
noncomputable def shT (p q : List Rat) : T3 :=
  (trim (sclL (1 / lead (eucT p q).1) (eucT p q).1), trim (sclL (1 / lead (eucT p q).1) (eucT p q).2.1), trim (sclL (1 / lead (eucT p q).1) (eucT p q).2.2))
def tD (a : T3) : D := .tuple [rowD a.1, rowD a.2.1, rowD a.2.2]
theorem one_row : c_ONE = rowD [1] := rfl
theorem minus_fr : c_MINUS = frD (-1) := rfl
theorem lead_snoc (l : List Rat) (a : Rat) : lead (l ++ [a]) = a := by
  unfold lead
  rw [List.getLastD_eq_getLast?, List.getLast?_append]
  rfl
theorem rat_div_zero (a : Rat) : a / 0 = 0 := by rw [Rat.div_def, Rat.inv_zero, Rat.mul_zero]
theorem scl_zero (l : List Rat) : trim (sclL 0 l) = [] := trim_zeros _ fun a ha => by
  obtain ⟨q, _, rfl⟩ := List.mem_map.mp ha
  exact Rat.mul_zero q
theorem SzS.fin {m L : Nat} {a b : T3} (h : SzS m L a b) (h0 : b.1 = []) : Sr (U m (L + 1)) a.1 ∧ Cf (W m L) ((L + 2) * (L + 2)) a b ∧ a.1.length ≤ L + 1 := by
  rcases h with ⟨l1, l2, s1, s2, cf⟩ | ⟨i, hx⟩
  · refine ⟨s1.up (U_mono m (i := 0) (Nat.zero_le _)), cf.up ?_ ?_, by omega⟩
    · have := W_mono m (Nat.zero_le L)
      have e : W m 0 = 2 * U m 1 + 40 := rfl
      omega
    · have : 1 * 1 ≤ (L + 2) * (L + 2) := Nat.mul_le_mul (by omega) (by omega)
      omega
  · have la := hx.la
    have lt := hx.lt
    exact ⟨hx.sa.up (U_mono m (by omega)), hx.cf.up (W_mono m (by omega)) (Nat.mul_le_mul_right _ (by omega)), by omega⟩
theorem sz_inv {m : Nat} {q : Rat} (h : Sz m q) (h0 : q ≠ 0) : Sz (m + 1) (1 / q) := by
  have e : 1 / q = Rat.divInt (q.den : Int) q.num := by
    have := rat_part 1 q
    rw [← this]
    have e1 : (1 : Rat).num = 1 := rfl
    have e2 : (1 : Rat).den = 1 := rfl
    rw [e1, e2, Int.one_mul]
    show Rat.divInt (q.den : Int) ((1 : Int) * q.num) = _
    rw [Int.one_mul]
  rw [e]
  obtain ⟨n1, n2⟩ := divInt_num_le (q.den : Int) q.num (fun z => h0 (Rat.num_eq_zero.mp z))
  have h1 := h.1
  have h2 := h.2
  have up : 2 ^ m ≤ 2 ^ (m + 1) := Nat.pow_le_pow_right (by decide) (by omega)
  rw [Int.natAbs_natCast] at n1
  exact ⟨by omega, by omega⟩
end DL

set_option linter.all false
set_option autoImplicit false
set_option maxRecDepth 10000
set_option maxHeartbeats 400000
namespace DL
open PySem PySem.Spec L2
local macro_rules | `(tactic| walk_at "dl") => `(tactic| simp -implicitDefEqProofs only [wSeq, wNext, wSet, wSetL, wAsg, wPar, parD, wRet, wExpr, wApp, wSetIx, wIf, wFrz, wRaise, wBreak, wCont, eVar, eC, eOp, tBl, dI, dB, dAdd, dSub, dMul, dFdiv, dMod, dPow, eNeg, dLt, dLe, dGt, dGe, dEq, dNe, dIs, dIsNot, eAnd, eOr, eNot, tAndD, tOrD, tNotD,
  aNil, aCons, eTup, eLst, lLst, eL, dIx, eSl, dSl, oNo, oSome, eCB, cLen, cAbs, cMax, cMin, cTuple, cList, cInt, eIsi, isiD, dName, dTupT, dCons, dNil, eCell, cellP, eIxO, eLenO, eCall, startΓ, startS, List.getElem?_cons_zero, List.getElem?_cons_succ, List.set, List.map, List.length, List.replicate, List.append, List.cons_append, List.nil_append, Nat.sub_self, Nat.reduceAdd, Nat.reduceSub, true_and, ixD_0, ixD_1, ixD_2, ixD_3, ixD_4, ixD_5, ixD_6, ixD_7, ixD_8, ixD_9, ixD_10, ixD_11, ixD_12, ixD_13, ixD_14, ixD_15, ixD_16, ixD_17, ixD_18, ixD_19])
/-! ### rows that share nothing -/
def numsL : List Int := [1, 2, 3, 4, 5, 7, -2, -3, -5, -6, -7, -10]
def facA (xs : List Int) (k : Nat) : Rat := Rat.divInt (xs.getD 0 0 % 25 - 12 + (1 + xs.getD 1 0 % 5) * (k : Int) * (1 + xs.getD 2 0 % 3)) (1 + xs.getD 2 0 % 3)
def facR (xs : List Int) (k : Nat) : List Rat :=
  if xs.getD (3 + k) 0 % 3 = 0 then [facA xs k * facA xs k + ((numsL.getD (xs.getD (3 + k) 0 / 3 % 12).toNat 0 : Int) : Rat), 2 * facA xs k, 1]
  else if xs.getD (3 + k) 0 % 9 = 1 then [facA xs k * facA xs k * facA xs k + ((2 + xs.getD (3 + k) 0 / 9 % 6 : Int) : Rat), 3 * (facA xs k * facA xs k), 3 * facA xs k, 1]
  else [facA xs k, 1]
theorem facA_sz (xs : List Int) (k : Nat) (hk : k < 10) : Sz 10 (facA xs k) := by
  unfold facA
  have h0 := Int.emod_nonneg (xs.getD 0 0) (show (25 : Int) ≠ 0 by decide)
  have h1 := Int.emod_lt_of_pos (xs.getD 0 0) (show (0 : Int) < 25 by decide)
  have h2 := Int.emod_nonneg (xs.getD 1 0) (show (5 : Int) ≠ 0 by decide)
  have h3 := Int.emod_lt_of_pos (xs.getD 1 0) (show (0 : Int) < 5 by decide)
  have h4 := Int.emod_nonneg (xs.getD 2 0) (show (3 : Int) ≠ 0 by decide)
  have h5 := Int.emod_lt_of_pos (xs.getD 2 0) (show (0 : Int) < 3 by decide)
  generalize xs.getD 0 0 % 25 = u at h0 h1 ⊢
  generalize xs.getD 1 0 % 5 = v at h2 h3 ⊢
  generalize xs.getD 2 0 % 3 = w at h4 h5 ⊢
  have a1 : 0 ≤ (1 + v) * (k : Int) := Int.mul_nonneg (by omega) (by omega)
  have a2 : (1 + v) * (k : Int) ≤ 5 * 9 := Int.mul_le_mul (by omega) (by omega) (by omega) (by omega)
  have a3 : 0 ≤ (1 + v) * (k : Int) * (1 + w) := Int.mul_nonneg a1 (by omega)
  have a4 : (1 + v) * (k : Int) * (1 + w) ≤ (5 * 9) * 3 := Int.mul_le_mul a2 (by omega) (by omega) (by omega)
  generalize (1 + v) * (k : Int) * (1 + w) = z at a3 a4 ⊢
  obtain ⟨n1, n2⟩ := divInt_num_le (u - 12 + z) (1 + w) (by omega)
  exact ⟨by omega, by omega⟩
theorem sz_int {m : Nat} {z : Int} (h : z.natAbs < 2 ^ m) (hm : 0 < m) : Sz m (z : Rat) := by
  unfold Sz
  rw [Rat.num_intCast, Rat.den_intCast]
  exact ⟨h, Nat.one_lt_two_pow (by omega)⟩
theorem sz_mul {m n : Nat} {p q : Rat} (hp : Sz m p) (hq : Sz n q) : Sz (m + n) (p * q) := by
  have := (ib_of p).mul (ib_of q)
  have e2 : p * (p.den : Rat) * (q * (q.den : Rat)) = p * q * ((p.den * q.den : Nat) : Rat) := by rw [Rat.natCast_mul]; grind
  rw [e2] at this
  exact sz_of (Nat.mul_pos p.den_pos q.den_pos) (mul_bits hp.2 hq.2) (mul_bits hp.1 hq.1) this
theorem sz_add {m n : Nat} {p q : Rat} (hp : Sz m p) (hq : Sz n q) : Sz (m + n + 1) (p + q) := by
  have t1 := (ib_of p).mul (Ib.nat q.den)
  have t2 := (ib_of q).mul (Ib.nat p.den)
  have t3 := t1.add t2
  have e : p * (p.den : Rat) * (q.den : Rat) + q * (q.den : Rat) * (p.den : Rat) = (p + q) * ((p.den * q.den : Nat) : Rat) := by rw [Rat.natCast_mul]; grind
  rw [e] at t3
  have u1 := mul_bits hp.2 hq.2
  have u2 := mul_bits hp.1 hq.2
  have u3 := mul_bits hq.1 hp.2
  rw [Nat.add_comm n m] at u3
  have e3 : 2 ^ (m + n + 1) = 2 ^ (m + n) + 2 ^ (m + n) := by rw [Nat.pow_succ]; omega
  exact sz_of (Nat.mul_pos p.den_pos q.den_pos) (by omega) (by omega) t3
theorem numsL_le : ∀ z ∈ numsL, z.natAbs < 2 ^ 4 := by decide
theorem nums_sz (x : Int) : Sz 4 ((numsL.getD (x / 3 % 12).toNat 0 : Int) : Rat) := by
  refine sz_int ?_ (by decide)
  rw [List.getD_eq_getElem?_getD]
  cases e : numsL[(x / 3 % 12).toNat]? with
  | some z => exact numsL_le z (List.mem_of_getElem? e)
  | none => decide
theorem facR_az (xs : List Int) (k : Nat) (hk : k < 10) : Az 35 (facR xs k) := by
  have ha := facA_sz xs k hk
  have one : Sz 35 1 := ⟨by decide, by decide⟩
  have t2 : Sz 2 2 := ⟨by decide, by decide⟩
  have t3 : Sz 2 3 := ⟨by decide, by decide⟩
  have h6 := Int.emod_nonneg (xs.getD (3 + k) 0 / 9) (show (6 : Int) ≠ 0 by decide)
  have h7 := Int.emod_lt_of_pos (xs.getD (3 + k) 0 / 9) (show (0 : Int) < 6 by decide)
  have c6 : Sz 4 ((2 + xs.getD (3 + k) 0 / 9 % 6 : Int) : Rat) := sz_int (by omega) (by decide)
  unfold facR
  split
  · intro q hq
    simp only [List.mem_cons, List.not_mem_nil, or_false] at hq
    rcases hq with rfl | rfl | rfl
    · exact (sz_add (sz_mul ha ha) (nums_sz _)).up (by decide)
    · exact (sz_mul t2 ha).up (by decide)
    · exact one
  · split
    · intro q hq
      simp only [List.mem_cons, List.not_mem_nil, or_false] at hq
      rcases hq with rfl | rfl | rfl | rfl
      · exact (sz_add (sz_mul (sz_mul ha ha) ha) c6).up (by decide)
      · exact (sz_mul t3 (sz_mul ha ha)).up (by decide)
      · exact (sz_mul t3 ha).up (by decide)
      · exact one
    · intro q hq
      simp only [List.mem_cons, List.not_mem_nil, or_false] at hq
      rcases hq with rfl | rfl
      · exact ha.up (by decide)
      · exact one
theorem facR_row (xs : List Int) (k : Nat) : IsRow (facR xs k) := by
  unfold facR
  split
  · exact row_snoc [_, _] (by decide)
  · split
    · exact row_snoc [_, _, _] (by decide)
    · exact row_snoc [_] (by decide)
theorem facR_len (xs : List Int) (k : Nat) : 2 ≤ (facR xs k).length ∧ (facR xs k).length ≤ 4 := by
  unfold facR
  split
  · exact ⟨Nat.le_of_ble_eq_true rfl, Nat.le_of_ble_eq_true rfl⟩
  · split
    · exact ⟨Nat.le_of_ble_eq_true rfl, Nat.le_of_ble_eq_true rfl⟩
    · exact ⟨Nat.le_of_ble_eq_true rfl, Nat.le_of_ble_eq_true rfl⟩
def facL (x : Int) (m : Nat) : List (List Rat) := (List.range m).map fun k => facR (stream x (3 + m)) k
def R__law_factors (py : Prop) : List D → Res → Prop := fun ds r => ∃ (x : Int) (m : Nat), ds = [.int x, .int m] ∧ m < 10 ∧ r = .ok (.list ((facL x m).map rowD))
def w__law_factors (Ex : Nat → Prop) (py : Prop) : DS :=
  (wSeq (wSet 2 (eCall Ex (R__law_stream py) (aCons (eVar 0) (aCons (eOp dAdd (eC (.int 3)) (eVar 1)) aNil))))
  (wSeq (wSet 3 (eOp dAdd (eC (.int 1)) (eOp dMod (eOp dIx (eVar 2) (eC (.int 2))) (eC (.int 3)))))
  (wSeq (wSetL 4 (lLst aNil))
  (wSeq (wFor (iR1 (aCons (eVar 1) aNil)) (dName 5)
  (wSeq (wSet 6 (eCall Ex (R__law_fraction py) (aCons (eOp dAdd (eOp dSub (eOp dMod (eOp dIx (eVar 2) (eC (.int 0))) (eC (.int 25))) (eC (.int 12))) (eOp dMul (eOp dMul (eOp dAdd (eC (.int 1)) (eOp dMod (eOp dIx (eVar 2) (eC (.int 1))) (eC (.int 5)))) (eVar 5)) (eVar 3))) (aCons (eVar 3) aNil))))
  (wIf (tBl (eOp dEq (eOp dMod (eOp dIx (eVar 2) (eOp dAdd (eC (.int 3)) (eVar 5))) (eC (.int 3))) (eC (.int 0))))
  (wSeq (wSet 7 (eOp dIx (eLst (aCons (eC (.int 1)) (aCons (eC (.int 2)) (aCons (eC (.int 3)) (aCons (eC (.int 4)) (aCons (eC (.int 5)) (aCons (eC (.int 7)) (aCons (eNeg (eC (.int 2))) (aCons (eNeg (eC (.int 3))) (aCons (eNeg (eC (.int 5))) (aCons (eNeg (eC (.int 6))) (aCons (eNeg (eC (.int 7))) (aCons (eNeg (eC (.int 10))) aNil))))))))))))) (eOp dMod (eOp (dFdiv py) (eOp dIx (eVar 2) (eOp dAdd (eC (.int 3)) (eVar 5))) (eC (.int 3))) (eC (.int 12)))))
  (wSeq (wSet 8 (eCall Ex (R__law_sum py) (aCons (eCall Ex (R__law_product py) (aCons (eVar 6) (aCons (eVar 6) aNil))) (aCons (eTup (aCons (eVar 7) (aCons (eC (.int 1)) aNil))) aNil))))
  (wApp 4 (eTup (aCons (eVar 8) (aCons (eCall Ex (R__law_product py) (aCons (eTup (aCons (eC (.int 2)) (aCons (eC (.int 1)) aNil))) (aCons (eVar 6) aNil))) (aCons (eTup (aCons (eC (.int 1)) (aCons (eC (.int 1)) aNil))) aNil)))))))
  (wIf (tBl (eOp dEq (eOp dMod (eOp dIx (eVar 2) (eOp dAdd (eC (.int 3)) (eVar 5))) (eC (.int 9))) (eC (.int 1))))
  (wSeq (wSet 9 (eCall Ex (R__law_product py) (aCons (eVar 6) (aCons (eVar 6) aNil))))
  (wSeq (wSet 8 (eCall Ex (R__law_sum py) (aCons (eCall Ex (R__law_product py) (aCons (eVar 9) (aCons (eVar 6) aNil))) (aCons (eTup (aCons (eOp dAdd (eC (.int 2)) (eOp dMod (eOp (dFdiv py) (eOp dIx (eVar 2) (eOp dAdd (eC (.int 3)) (eVar 5))) (eC (.int 9))) (eC (.int 6)))) (aCons (eC (.int 1)) aNil))) aNil))))
  (wApp 4 (eTup (aCons (eVar 8) (aCons (eCall Ex (R__law_product py) (aCons (eTup (aCons (eC (.int 3)) (aCons (eC (.int 1)) aNil))) (aCons (eVar 9) aNil))) (aCons (eCall Ex (R__law_product py) (aCons (eTup (aCons (eC (.int 3)) (aCons (eC (.int 1)) aNil))) (aCons (eVar 6) aNil))) (aCons (eTup (aCons (eC (.int 1)) (aCons (eC (.int 1)) aNil))) aNil))))))))
  (wApp 4 (eTup (aCons (eVar 6) (aCons (eTup (aCons (eC (.int 1)) (aCons (eC (.int 1)) aNil))) aNil))))))))
  (wFrz 4 (wRet (eL (lLc (iLst (eVar 4)) [10] (dName 10) tYesD (eCall (fun _ => False) (R__law_trim py) (aCons (eVar 10) aNil))))))))))

theorem nums_get (n : Nat) (h : n < numsL.length) : (numsL.map PyData.int)[n]? = some (.int (numsL.getD n 0)) := by
  rw [List.getElem?_map, List.getElem?_eq_getElem h, List.getD_eq_getElem?_getD, List.getElem?_eq_getElem h]
  rfl
theorem if_true {c : DT} {a b : DS} {D₁ : DEnds} {Γ : Ct} (h : ∀ P : Bool → Prop, P true → c Γ P) (ha : a D₁ Γ) : wIf c a b D₁ Γ := h _ ha
theorem if_false {c : DT} {a b : DS} {D₁ : DEnds} {Γ : Ct} (h : ∀ P : Bool → Prop, P false → c Γ P) (hb : b D₁ Γ) : wIf c a b D₁ Γ := h _ hb
theorem pure__law_factors (py : Prop) (ds : List D) (r : Res) (h : R__law_factors py ds r) : w__law_factors (fun g => r = .err g) py (endsOf r) (startΓ ["_law_x", "_law_many", "_law_xs", "_law_low", "_law_found", "_law_k", "_law_at", "_law_number_here", "_law_low_end", "_law_square", "_law_row"] ds) := by
  obtain ⟨x, m, rfl, hm, rfl⟩ := h
  have l0 : ∀ n, n < 8500 → Lim py n := fun n hn => ⟨by omega, .inl (by omega)⟩
  have z3 : (0 : Int) < 3 ∧ ((3 : Int).natAbs.log2 < 9000 ∨ py) := ⟨by decide, .inl (by decide)⟩
  have z9 : (0 : Int) < 9 ∧ ((9 : Int).natAbs.log2 < 9000 ∨ py) := ⟨by decide, .inl (by decide)⟩
  unfold w__law_factors
  refine seq_go fun nx hnx => ?_
  walk_at "dl"
  refine call_ok ⟨x, 3 + m, rfl, by omega, rfl⟩ (hnx _ ?_)
  unfold facL
  have get : ∀ k, k < 3 + m → ((stream x (3 + m)).map PyData.int)[k]? = some (.int ((stream x (3 + m)).getD k 0)) := fun k hk => stream_get hk
  have rng : ∀ k, k < 3 + m → 0 ≤ (stream x (3 + m)).getD k 0 ∧ (stream x (3 + m)).getD k 0 < 2147483647 := fun k hk => stream_getD hk
  unfold intsD
  generalize stream x (3 + m) = xs at get rng ⊢
  refine seq_go fun nx hnx => ?_
  walk_at "dl"
  rw [get 2 (by omega)]
  refine ⟨by decide, hnx _ ?_⟩
  refine seq_go fun nx hnx => ?_
  walk_at "dl"
  refine hnx _ ?_
  refine seq_go fun nx hnx => ?_
  unfold wFor iR1
  walk_at "dl"
  refine ⟨inR_of (by omega) (by omega), ?_⟩
  rw [Int.toNat_natCast]
  refine for_inv (fun (k : Nat) (Γ : Ct) => ∃ x5 x6 x7 x8 x9 : En, k ≤ m ∧ Γ = [.im (.int x), .im (.int m), .im (.list (xs.map PyData.int)), .im (.int (1 + xs.getD 2 0 % 3)), .own (((List.range k).map fun i => rowD (facR xs i))), x5, x6, x7, x8, x9, .no]) (fun k d nx' Γ hd hn' hI => ?_) (fun Γ hI => ?_) ⟨_, _, _, _, _, Nat.zero_le _, rfl⟩
  · obtain ⟨x5, x6, x7, x8, x9, _, rfl⟩ := hI
    obtain ⟨hk, rfl⟩ := rngD_at hd
    rw [Int.zero_add]
    have ha := facA_sz xs k (by omega)
    have h4 := Int.emod_nonneg (xs.getD 2 0) (show (3 : Int) ≠ 0 by decide)
    have h5 := Int.emod_lt_of_pos (xs.getD 2 0) (show (0 : Int) < 3 by decide)
    have h2 := Int.emod_nonneg (xs.getD 1 0) (show (5 : Int) ≠ 0 by decide)
    have h3 := Int.emod_lt_of_pos (xs.getD 1 0) (show (0 : Int) < 5 by decide)
    refine seq_go fun nx2 hnx2 => ?_
    walk_at "dl"
    rw [get 0 (by omega), get 1 (by omega)]
    have a1 : 0 ≤ (1 + xs.getD 1 0 % 5) * (k : Int) := Int.mul_nonneg (by omega) (by omega)
    have a2 : (1 + xs.getD 1 0 % 5) * (k : Int) ≤ 5 * 9 := Int.mul_le_mul (by omega) (by omega) (by omega) (by omega)
    refine ⟨by decide, by decide, mulx_of (a := 8) (b := 8) (by omega) (by omega) (by decide), mulx_of (a := 8) (b := 8) (by omega) (by omega) (by decide), ?_⟩
    refine call_ok (d := frD (facA xs k)) ⟨_, _, rfl, .inl ?_, by omega, rfl⟩ (hnx2 _ ?_)
    · rw [Nat.log2_lt (by omega)]
      exact Nat.lt_of_lt_of_le (m := 2 ^ 5) (by omega) (Nat.pow_le_pow_right (by decide) (by decide))
    have snoc : ∀ row : List Rat, facR xs k = row → (List.range (k + 1)).map (fun i => rowD (facR xs i)) = (List.range k).map (fun i => rowD (facR xs i)) ++ [rowD row] := fun row e => by
      rw [List.range_succ, List.map_append, ← e]; rfl
    have app : ∀ (row : List Rat) (y6 y7 y8 y9 : En), facR xs k = row → nx' [.im (.int x), .im (.int m), .im (.list (xs.map PyData.int)), .im (.int (1 + xs.getD 2 0 % 3)), .own (((List.range k).map fun i => rowD (facR xs i)) ++ [rowD row]), .im (.int k), y6, y7, y8, y9, .no] := fun row y6 y7 y8 y9 e => by
      rw [← snoc row e]
      exact hn' _ ⟨_, _, _, _, _, hk, rfl⟩
    have few : ((List.range k).map fun i => rowD (facR xs i)).length < sizeLine := by rw [List.length_map, List.length_range]; exact line_lt (by omega)
    have g3 := get (3 + k) (by omega)
    have r3 := rng (3 + k) (by omega)
    -- of three kinds
    have i3 : (3 : Int) + (k : Int) = ((3 + k : Nat) : Int) := by omega
    have lim : Lim py 100 := l0 _ (by decide)
    have t2 : Sz 2 2 := ⟨by decide, by decide⟩
    have t3 : Sz 2 3 := ⟨by decide, by decide⟩
    by_cases c0 : xs.getD (3 + k) 0 % 3 = 0
    · have ef : facR xs k = [facA xs k * facA xs k + ((numsL.getD (xs.getD (3 + k) 0 / 3 % 12).toNat 0 : Int) : Rat), 2 * facA xs k, 1] := by unfold facR; rw [if_pos c0]
      refine if_true (fun P hP => ?_) ?_
      · walk_at "dl"
        refine ixD_at (3 + k) i3 g3 ⟨by decide, ?_⟩
        rw [decide_eq_true c0]
        exact hP
      have nlt : (xs.getD (3 + k) 0 / 3 % 12).toNat < numsL.length := by
        have := Int.emod_lt_of_pos (xs.getD (3 + k) 0 / 3) (show (0 : Int) < 12 by decide)
        show _ < 12
        omega
      have nge := Int.emod_nonneg (xs.getD (3 + k) 0 / 3) (show (12 : Int) ≠ 0 by decide)
      refine seq_go fun nx3 hnx3 => ?_
      walk_at "dl"
      refine ixD_at (3 + k) i3 g3 ⟨z3, by decide, ?_⟩
      have ns := nums_sz (xs.getD (3 + k) 0)
      show ixD (numsL.map PyData.int) _ _
      refine ixD_at (xs.getD (3 + k) 0 / 3 % 12).toNat (by omega) (v := .int (numsL.getD (xs.getD (3 + k) 0 / 3 % 12).toNat 0)) (nums_get _ nlt) (hnx3 _ ?_)
      generalize numsL.getD (xs.getD (3 + k) 0 / 3 % 12).toNat 0 = c at ef ns ⊢
      have ec : PyData.tuple [.int c, .int 1] = frD (c : Rat) := by unfold frD; rw [Rat.num_intCast, Rat.den_intCast]; rfl
      refine seq_go fun nx4 hnx4 => ?_
      walk_at "dl"
      refine call_ok ⟨_, _, 10, 10, rfl, ha, ha, lim.low (by decide), rfl⟩ ?_
      rw [ec]
      refine call_ok ⟨_, _, 20, 4, rfl, sz_mul ha ha, ns, lim.low (by decide), rfl⟩ (hnx4 _ ?_)
      walk_at "dl"
      refine call_ok ⟨2, _, 2, 10, rfl, t2, ha, lim.low (by decide), rfl⟩ ⟨few, ?_⟩
      exact app _ _ _ _ _ ef
    · refine if_false (fun P hP => ?_) ?_
      · walk_at "dl"
        refine ixD_at (3 + k) i3 g3 ⟨by decide, ?_⟩
        rw [decide_eq_false c0]
        exact hP
      by_cases c1 : xs.getD (3 + k) 0 % 9 = 1
      · have ef : facR xs k = [facA xs k * facA xs k * facA xs k + ((2 + xs.getD (3 + k) 0 / 9 % 6 : Int) : Rat), 3 * (facA xs k * facA xs k), 3 * facA xs k, 1] := by unfold facR; rw [if_neg c0, if_pos c1]
        refine if_true (fun P hP => ?_) ?_
        · walk_at "dl"
          refine ixD_at (3 + k) i3 g3 ⟨by decide, ?_⟩
          rw [decide_eq_true c1]
          exact hP
        have h6 := Int.emod_nonneg (xs.getD (3 + k) 0 / 9) (show (6 : Int) ≠ 0 by decide)
        have h7 := Int.emod_lt_of_pos (xs.getD (3 + k) 0 / 9) (show (0 : Int) < 6 by decide)
        refine seq_go fun nx3 hnx3 => ?_
        walk_at "dl"
        refine call_ok ⟨_, _, 10, 10, rfl, ha, ha, lim.low (by decide), rfl⟩ (hnx3 _ ?_)
        refine seq_go fun nx4 hnx4 => ?_
        walk_at "dl"
        refine call_ok ⟨_, _, 20, 10, rfl, sz_mul ha ha, ha, lim.low (by decide), rfl⟩ ?_
        refine ixD_at (3 + k) i3 g3 ⟨z9, by decide, ?_⟩
        have ns : Sz 4 ((2 + xs.getD (3 + k) 0 / 9 % 6 : Int) : Rat) := sz_int (by omega) (by decide)
        generalize 2 + xs.getD (3 + k) 0 / 9 % 6 = c at ef ns ⊢
        have ec : PyData.tuple [.int c, .int 1] = frD (c : Rat) := by unfold frD; rw [Rat.num_intCast, Rat.den_intCast]; rfl
        rw [ec]
        refine call_ok ⟨_, _, 30, 4, rfl, sz_mul (sz_mul ha ha) ha, ns, lim.low (by decide), rfl⟩ (hnx4 _ ?_)
        walk_at "dl"
        refine call_ok ⟨3, _, 2, 20, rfl, t3, sz_mul ha ha, lim.low (by decide), rfl⟩ ?_
        refine call_ok ⟨3, _, 2, 10, rfl, t3, ha, lim.low (by decide), rfl⟩ ⟨few, ?_⟩
        exact app _ _ _ _ _ ef
      · have ef : facR xs k = [facA xs k, 1] := by unfold facR; rw [if_neg c0, if_neg c1]
        refine if_false (fun P hP => ?_) ?_
        · walk_at "dl"
          refine ixD_at (3 + k) i3 g3 ⟨by decide, ?_⟩
          rw [decide_eq_false c1]
          exact hP
        walk_at "dl"
        refine ⟨few, ?_⟩
        exact app _ _ _ _ _ ef
  · obtain ⟨x5, x6, x7, x8, x9, _, rfl⟩ := hI
    refine hnx _ ?_
    unfold lLc iLst
    walk_at "dl"
    rw [rngD_length]
    refine ⟨rfl, ?_⟩
    refine lc_get _ ((List.range m).map fun i => rowD (facR xs i)) [] rfl (fun i d y hd hy Q R hQ => ?_) (by rw [List.length_map, List.length_range]; exact line_le (by show 0 + m ≤ _; omega)) ?_
    · rw [List.getElem?_map] at hd
      obtain ⟨z, hz, rfl⟩ := Option.map_eq_some_iff.mp hd
      rw [List.getElem?_map, hz] at hy
      cases hy
      unfold tYesD
      refine call_ok (R := R__law_trim py) (d := rowD (facR xs z)) ⟨facR xs z, .inr rfl, ?_⟩ hQ
      rw [show trim (facR xs z) = facR xs z from facR_row xs z]
    · rw [List.nil_append, List.map_map]
      rfl
end DL

set_option linter.all false
set_option autoImplicit false
set_option maxRecDepth 10000
set_option maxHeartbeats 400000
namespace DL
open PySem PySem.Spec L2
local macro_rules | `(tactic| walk_at "dl") => `(tactic| simp -implicitDefEqProofs only [wSeq, wNext, wSet, wSetL, wAsg, wPar, parD, wRet, wExpr, wApp, wSetIx, wIf, wFrz, wRaise, wBreak, wCont, eVar, eC, eOp, tBl, dI, dB, dAdd, dSub, dMul, dFdiv, dMod, dPow, eNeg, dLt, dLe, dGt, dGe, dEq, dNe, dIs, dIsNot, eAnd, eOr, eNot, tAndD, tOrD, tNotD,
  aNil, aCons, eTup, eLst, lLst, eL, dIx, eSl, dSl, oNo, oSome, eCB, cLen, cAbs, cMax, cMin, cTuple, cList, cInt, eIsi, isiD, dName, dTupT, dCons, dNil, eCell, cellP, eIxO, eLenO, eCall, startΓ, startS, List.getElem?_cons_zero, List.getElem?_cons_succ, List.set, List.map, List.length, List.replicate, List.append, List.cons_append, List.nil_append, Nat.sub_self, Nat.reduceAdd, Nat.reduceSub, true_and, ixD_0, ixD_1, ixD_2, ixD_3, ixD_4, ixD_5, ixD_6, ixD_7, ixD_8, ixD_9, ixD_10, ixD_11, ixD_12, ixD_13, ixD_14, ixD_15, ixD_16, ixD_17, ixD_18, ixD_19])
/-! ### what a law may ask of shared -/
structure ShF (p q : List Rat) (t : T3) : Prop where
  r0 : IsRow t.1
  r1 : IsRow t.2.1
  r2 : IsRow t.2.2
  eq : ∀ x, ev t.2.1 x * ev p x + ev t.2.2 x * ev q x = ev t.1 x
  non : p = [] → q = [] → t.1 = []
  led : p ≠ [] ∨ q ≠ [] → ∃ l, t.1 = l ++ [1]
  dp : Dvd t.1 p
  dq : Dvd t.1 q
theorem dvd_nil {p : List Rat} (hp : IsRow p) (h : Dvd [] p) : p = [] := (row_eq_nil_iff hp).mpr fun x => by
  obtain ⟨u, hu⟩ := h
  rw [hu, ev_nil, Rat.mul_zero]
theorem shT_facts {p q : List Rat} (hp : IsRow p) (hq : IsRow q) : ShF p q (shT p q) := by
  obtain ⟨tr, d1, d2⟩ := eucT_spec hp hq
  unfold shT
  generalize eucT p q = a at tr d1 d2
  have ra := tr.r0
  rcases snoc_cases a.1 with a0 | ⟨l, t, hlt⟩
  · have e0 : (1 : Rat) / lead a.1 = 0 := by rw [a0]; exact rat_div_zero 1
    rw [a0] at d1 d2
    have p0 := dvd_nil hp d1
    have q0 := dvd_nil hq d2
    rw [e0, scl_zero, scl_zero, scl_zero]
    exact ⟨row_nil, row_nil, row_nil, fun x => by show ev [] x * _ + ev [] x * _ = ev [] x; rw [ev_nil]; grind, fun _ _ => rfl, fun h => by rcases h with h | h <;> contradiction, d1, d2⟩
  · have t0 : t ≠ 0 := by rw [hlt] at ra; exact snoc_row ra
    have e1 : lead a.1 = t := by rw [hlt, lead_snoc]
    rw [e1]
    have ev1 : ∀ (z : List Rat) x, ev (trim (sclL (1 / t) z)) x = ev z x * (1 / t) := fun z x => by rw [ev_trim, ev_scl]
    have dv : ∀ z, Dvd a.1 z → Dvd (trim (sclL (1 / t) a.1)) z := fun z h => by
      obtain ⟨u, hu⟩ := h
      refine ⟨sclL t u, fun x => ?_⟩
      rw [ev1, ev_scl, hu]
      grind
    refine ⟨row_trim _, row_trim _, row_trim _, fun x => ?_, fun p0 q0 => ?_, fun _ => ?_, dv p d1, dv q d2⟩
    · show ev (trim (sclL (1 / t) a.2.1)) x * _ + ev (trim (sclL (1 / t) a.2.2)) x * _ = ev (trim (sclL (1 / t) a.1)) x
      rw [ev1, ev1, ev1]
      have := tr.eq x
      grind
    · have hz : a.1 = [] := (row_eq_nil_iff ra).mpr fun x => by
        have := tr.eq x
        rw [p0, q0, ev_nil] at this
        grind
      rw [hz] at hlt
      simp at hlt
    · refine ⟨sclL (1 / t) l, ?_⟩
      show trim (sclL (1 / t) a.1) = _
      have e2 : sclL (1 / t) (l ++ [t]) = sclL (1 / t) l ++ [1] := by
        unfold sclL
        rw [List.map_append]
        have : t * (1 / t) = 1 := by grind
        show _ ++ [t * (1 / t)] = _
        rw [this]
      rw [hlt, e2, trim_last _ _ (by decide)]
end DL

set_option linter.all false
set_option autoImplicit false
set_option maxRecDepth 10000
namespace DL
theorem divInt_mul_den (n : Int) (L : Nat) (hL : 0 < L) : Rat.divInt n (L : Int) * (L : Rat) = (n : Rat) := by
  rw [Rat.divInt_eq_div]
  have h : ((L : Int) : Rat) ≠ 0 := fun z => by
    have h3 : ((L : Int) : Rat) = ((0 : Int) : Rat) := z
    have := Rat.intCast_inj.mp h3
    omega
  show (n : Rat) / ((L : Int) : Rat) * ((L : Int) : Rat) = (n : Rat)
  grind
/-- at = n / L, with L at most 3 -/
theorem facA_ib (xs : List Int) (k : Nat) (hk : k < 10) : ∃ L : Nat, 0 < L ∧ L ≤ 3 ∧ Ib 147 (facA xs k * (L : Rat)) := by
  unfold facA
  have h0 := Int.emod_nonneg (xs.getD 0 0) (show (25 : Int) ≠ 0 by decide)
  have h1 := Int.emod_lt_of_pos (xs.getD 0 0) (show (0 : Int) < 25 by decide)
  have h2 := Int.emod_nonneg (xs.getD 1 0) (show (5 : Int) ≠ 0 by decide)
  have h3 := Int.emod_lt_of_pos (xs.getD 1 0) (show (0 : Int) < 5 by decide)
  have h4 := Int.emod_nonneg (xs.getD 2 0) (show (3 : Int) ≠ 0 by decide)
  have h5 := Int.emod_lt_of_pos (xs.getD 2 0) (show (0 : Int) < 3 by decide)
  generalize xs.getD 0 0 % 25 = u at h0 h1 ⊢
  generalize xs.getD 1 0 % 5 = v at h2 h3 ⊢
  generalize xs.getD 2 0 % 3 = w at h4 h5 ⊢
  have a1 : 0 ≤ (1 + v) * (k : Int) := Int.mul_nonneg (by omega) (by omega)
  have a2 : (1 + v) * (k : Int) ≤ 5 * 9 := Int.mul_le_mul (by omega) (by omega) (by omega) (by omega)
  have a3 : 0 ≤ (1 + v) * (k : Int) * (1 + w) := Int.mul_nonneg a1 (by omega)
  have a4 : (1 + v) * (k : Int) * (1 + w) ≤ (5 * 9) * 3 := Int.mul_le_mul a2 (by omega) (by omega) (by omega)
  generalize (1 + v) * (k : Int) * (1 + w) = z at a3 a4 ⊢
  obtain ⟨L, hL⟩ := Int.eq_ofNat_of_zero_le (show (0 : Int) ≤ 1 + w by omega)
  rw [hL]
  refine ⟨L, by omega, by omega, u - 12 + z, divInt_mul_den _ L (by omega), by omega⟩
theorem ib_lit {B : Nat} (z : Int) (h : z.natAbs ≤ B) : Ib B (z : Rat) := ⟨z, rfl, h⟩
theorem numsL_ib (x : Int) : Ib 15 ((numsL.getD (x / 3 % 12).toNat 0 : Int) : Rat) := by
  refine ib_lit _ ?_
  rw [List.getD_eq_getElem?_getD]
  cases e : numsL[(x / 3 % 12).toNat]? with
  | some z => exact Nat.le_of_lt_succ (numsL_le z (List.mem_of_getElem? e))
  | none => decide
theorem ib3 {B : Nat} {x : Rat} {L : Nat} (l3 : L ≤ 3) (h : Ib B x) : Ib (B * 3) (x * (L : Rat)) := h.mul ((Ib.nat L).up l3)
theorem fac_sr2 (xs : List Int) (k : Nat) (hk : k < 10) : Sr 23 (facR xs k) := by
  obtain ⟨L, l0, l3, ha⟩ := facA_ib xs k hk
  have h6 := Int.emod_nonneg (xs.getD (3 + k) 0 / 9) (show (6 : Int) ≠ 0 by decide)
  have h7 := Int.emod_lt_of_pos (xs.getD (3 + k) 0 / 9) (show (0 : Int) < 6 by decide)
  have hc6 : Ib 15 ((2 + xs.getD (3 + k) 0 / 9 % 6 : Int) : Rat) := ib_lit _ (by omega)
  have hcn := numsL_ib (xs.getD (3 + k) 0)
  have e27 : L * L * L ≤ 3 * 3 * 3 := Nat.mul_le_mul (Nat.mul_le_mul l3 l3) l3
  have pos : 0 < L * L * L := Nat.mul_pos (Nat.mul_pos l0 l0) l0
  refine ⟨L * L * L, 4000000, pos, by omega, by decide, ?_⟩
  have cast : ((L * L * L : Nat) : Rat) = (L : Rat) * L * L := by rw [Rat.natCast_mul, Rat.natCast_mul]
  have one : Ib 4000000 ((1 : Rat) * ((L * L * L : Nat) : Rat)) := by rw [Rat.one_mul]; exact (Ib.nat _).up (by omega)
  have c3 : ∀ {c : Rat}, Ib 15 c → Ib (15 * 3 * 3 * 3) (c * (L : Rat) * L * L) := fun h => ib3 l3 (ib3 l3 (ib3 l3 h))
  unfold facR
  generalize facA xs k = a at ha ⊢
  have a1 : Ib (147 * 3 * 3) (a * (L : Rat) * L * L) := ib3 l3 (ib3 l3 ha)
  have a2 : Ib (147 * 147 * 3) (a * (L : Rat) * (a * (L : Rat)) * L) := ib3 l3 (ha.mul ha)
  have a3 : Ib (147 * 147 * 147) (a * (L : Rat) * (a * (L : Rat)) * (a * (L : Rat))) := (ha.mul ha).mul ha
  split
  · refine .cons ?_ (.cons ?_ (.cons one .nil))
    · have := (a2.add (c3 hcn)).up (C := 4000000) (by decide)
      rw [cast]
      have e : ∀ c : Rat, (a * a + c) * ((L : Rat) * L * L) = a * (L : Rat) * (a * (L : Rat)) * L + c * (L : Rat) * L * L := fun c => by grind
      rw [e]
      exact this
    · have := ((ib_lit (B := 2) 2 (by decide)).mul a1).up (C := 4000000) (by decide)
      rw [cast]
      have e : 2 * a * ((L : Rat) * L * L) = ((2 : Int) : Rat) * (a * (L : Rat) * L * L) := by
        have : ((2 : Int) : Rat) = 2 := rfl
        rw [this]; grind
      rw [e]
      exact this
  · split
    · refine .cons ?_ (.cons ?_ (.cons ?_ (.cons one .nil)))
      · have := (a3.add (c3 hc6)).up (C := 4000000) (by decide)
        rw [cast]
        have e : ∀ c : Rat, (a * a * a + c) * ((L : Rat) * L * L) = a * (L : Rat) * (a * (L : Rat)) * (a * (L : Rat)) + c * (L : Rat) * L * L := fun c => by grind
        rw [e]
        exact this
      · have := ((ib_lit (B := 3) 3 (by decide)).mul a2).up (C := 4000000) (by decide)
        rw [cast]
        have e : 3 * (a * a) * ((L : Rat) * L * L) = ((3 : Int) : Rat) * (a * (L : Rat) * (a * (L : Rat)) * L) := by
          have : ((3 : Int) : Rat) = 3 := rfl
          rw [this]; grind
        rw [e]
        exact this
      · have := ((ib_lit (B := 3) 3 (by decide)).mul a1).up (C := 4000000) (by decide)
        rw [cast]
        have e : 3 * a * ((L : Rat) * L * L) = ((3 : Int) : Rat) * (a * (L : Rat) * L * L) := by
          have : ((3 : Int) : Rat) = 3 := rfl
          rw [this]; grind
        rw [e]
        exact this
    · refine .cons ?_ (.cons one .nil)
      have := a1.up (C := 4000000) (by decide)
      rw [cast]
      have e : a * ((L : Rat) * L * L) = a * (L : Rat) * L * L := by grind
      rw [e]
      exact this
end DL

set_option linter.all false
set_option autoImplicit false
namespace DL
theorem euc_sz {m L : Nat} {p q : List Rat} (hL : L ≤ 100) : ∀ (n : Nat) (a b : T3), Tr p q a → Tr p q b → SzS m L a b → b.1.length < n → Sr (U m (L + 1)) (euc n a b).1 ∧ Sr (W m L) (euc n a b).2.1 ∧ Sr (W m L) (euc n a b).2.2 ∧ (euc n a b).1.length ≤ L + 1 ∧ (euc n a b).2.1.length ≤ (L + 2) * (L + 2) ∧ (euc n a b).2.2.length ≤ (L + 2) * (L + 2)
  | 0, a, b, _, _, _, h => absurd h (Nat.not_lt_zero _)
  | n + 1, a, b, ha, hb, hz, h => by
    rw [euc]
    by_cases h0 : b.1 = []
    · rw [if_pos h0]
      obtain ⟨s, cf, l⟩ := hz.fin h0
      exact ⟨s, cf.s1, cf.s2, l, cf.l1, cf.l2⟩
    · rw [if_neg h0]
      have dv := dv_of ha.r0 hb.r0 h0
      refine euc_sz hL n b (eucS a b) hb (ha.step hb h0) (hz.step hL ha.r0 hb.r0 h0).1 ?_
      have := dv.lt
      show (DL.rem a.1 b.1).length < n
      omega
structure ShZ (Z V L : Nat) (t : T3) : Prop where
  s0 : Sr (2 * Z + 1) t.1
  s1 : Sr (V + Z + 1) t.2.1
  s2 : Sr (V + Z + 1) t.2.2
  l0 : t.1.length ≤ L + 1
  l1 : t.2.1.length ≤ (L + 2) * (L + 2)
  l2 : t.2.2.length ≤ (L + 2) * (L + 2)
theorem shT_sz {m L : Nat} {p q : List Rat} (hL : L ≤ 100) (hp : IsRow p) (hq : IsRow q) (lp : p.length ≤ L) (lq : q.length ≤ L) (sp : Sr m p) (sq : Sr m q) : ShZ (U m (L + 1)) (W m L) L (shT p q) := by
  have n1 : Sr 2 [1] := ⟨1, 1, by decide, by decide, by decide, .cons ⟨1, by rw [Rat.one_mul]; rfl, by decide⟩ .nil⟩
  have n0 : Sr 2 [] := .nil 2 (by decide)
  obtain ⟨s0, s1, s2, l0, l1, l2⟩ := euc_sz (m := m) (L := L) (p := p) (q := q) hL (q.length + 1) (p, [1], []) (q, [], [1])
    ⟨hp, row_one1, row_nil, fun x => by show ev [1] x * ev p x + ev [] x * ev q x = ev p x; rw [ev_cons, ev_nil]; grind⟩ ⟨hq, row_nil, row_one1, fun x => by show ev [] x * ev p x + ev [1] x * ev q x = ev q x; rw [ev_cons, ev_nil]; grind⟩
    (.inl ⟨lp, lq, sp, sq, ⟨n1, n0, n0, n1, Nat.le_refl _, Nat.zero_le _, Nat.zero_le _, Nat.le_refl _⟩⟩) (Nat.lt_succ_self _)
  obtain ⟨tr, _, _⟩ := eucT_spec hp hq
  have he : euc (q.length + 1) (p, [1], []) (q, [], [1]) = eucT p q := rfl
  rw [he] at s0 s1 s2 l0 l1 l2
  unfold shT
  generalize eucT p q = a at s0 s1 s2 l0 l1 l2 tr
  have ls : ∀ (c : Rat) (z : List Rat), (trim (sclL c z)).length ≤ z.length := fun c z => by
    have := trim_len (sclL c z)
    rw [sclL_len] at this
    exact this
  have ra := tr.r0
  have pz := sr_pos s0
  have pv := sr_pos s1
  rcases snoc_cases a.1 with a0 | ⟨l, t, hlt⟩
  · have e0 : (1 : Rat) / lead a.1 = 0 := by rw [a0]; exact rat_div_zero 1
    rw [e0, scl_zero, scl_zero, scl_zero]
    exact ⟨.nil _ (by omega), .nil _ (by omega), .nil _ (by omega), Nat.zero_le _, Nat.zero_le _, Nat.zero_le _⟩
  · have t0 : t ≠ 0 := by rw [hlt] at ra; exact snoc_row ra
    have e1 : lead a.1 = t := by rw [hlt, lead_snoc]
    rw [e1]
    have gt : Sz (U m (L + 1)) t := s0.az t (by rw [hlt]; exact List.mem_append_right _ (List.mem_singleton.mpr rfl))
    have gi := sz_inv gt t0
    exact ⟨((s0.scl gi).trim).up (by omega), ((s1.scl gi).trim).up (by omega), ((s2.scl gi).trim).up (by omega), Nat.le_trans (ls _ _) l0, Nat.le_trans (ls _ _) l1, Nat.le_trans (ls _ _) l2⟩
end DL

set_option linter.all false
set_option autoImplicit false
namespace DL
/-! ### more unknowns than equations: small whole numbers that solve them -/
theorem pigeon : ∀ (b a : Nat) (f : Nat → Nat), (∀ i, i < a → f i < b) → b < a → ∃ i j, i < j ∧ j < a ∧ f i = f j
  | 0, a, f, h, hb => absurd (h 0 hb) (Nat.not_lt_zero _)
  | b + 1, a, f, h, hb => by
    obtain ⟨a, rfl⟩ : ∃ c, a = c + 1 := ⟨a - 1, by omega⟩
    rcases Classical.em (∃ i, i < a ∧ f i = f a) with ⟨i, hi, e⟩ | hno
    · exact ⟨i, a, hi, Nat.lt_succ_self _, e⟩
    · have ne : ∀ i, i < a → f i ≠ f a := fun i hi e => hno ⟨i, hi, e⟩
      have ha := h a (Nat.lt_succ_self _)
      obtain ⟨i, j, hij, hj, e⟩ := pigeon b a (fun i => if f i < f a then f i else f i - 1) (fun i hi => by
        have := ne i hi
        have := h i (by omega)
        show (if f i < f a then f i else f i - 1) < b
        split <;> omega) (by omega)
      refine ⟨i, j, hij, by omega, ?_⟩
      have e : (if f i < f a then f i else f i - 1) = (if f j < f a then f j else f j - 1) := e
      have := ne i (by omega)
      have := ne j hj
      split at e <;> split at e <;> omega
def dg (K c j : Nat) : Nat := c / K ^ j % K
theorem dg_succ (K c j : Nat) : dg K c (j + 1) = dg K (c / K) j := by
  unfold dg
  rw [Nat.pow_succ, Nat.mul_comm, Nat.div_div_eq_div_mul]
theorem dg_ext {K : Nat} (hK : 0 < K) : ∀ (N c d : Nat), c < K ^ N → d < K ^ N → (∀ j, j < N → dg K c j = dg K d j) → c = d
  | 0, c, d, h1, h2, _ => by rw [Nat.pow_zero] at h1 h2; omega
  | N + 1, c, d, h1, h2, h => by
    have h0 := h 0 (Nat.succ_pos _)
    unfold dg at h0
    rw [Nat.pow_zero, Nat.div_one, Nat.div_one] at h0
    have hq := dg_ext hK N (c / K) (d / K) (by rw [Nat.div_lt_iff_lt_mul hK, ← Nat.pow_succ]; exact h1) (by rw [Nat.div_lt_iff_lt_mul hK, ← Nat.pow_succ]; exact h2) fun j hj => by
      rw [← dg_succ, ← dg_succ]
      exact h (j + 1) (by omega)
    rw [← Nat.div_add_mod c K, ← Nat.div_add_mod d K, hq, h0]
def en (R : Nat) (y : Nat → Nat) : Nat → Nat
  | 0 => 0
  | M + 1 => en R y M + y M * R ^ M
theorem en_lt {R : Nat} {y : Nat → Nat} : ∀ {M : Nat}, (∀ i, i < M → y i < R) → en R y M < R ^ M
  | 0, _ => by rw [Nat.pow_zero]; exact Nat.zero_lt_one
  | M + 1, h => by
    have h1 := en_lt (M := M) fun i hi => h i (by omega)
    have h2 := h M (Nat.lt_succ_self _)
    have h3 : (y M + 1) * R ^ M ≤ R * R ^ M := Nat.mul_le_mul_right _ h2
    rw [Nat.succ_mul] at h3
    rw [en, Nat.pow_succ, Nat.mul_comm (R ^ M)]
    omega
theorem en_ext {R : Nat} {y z : Nat → Nat} : ∀ {M : Nat}, (∀ i, i < M → y i < R) → (∀ i, i < M → z i < R) → en R y M = en R z M → ∀ i, i < M → y i = z i
  | 0, _, _, _ => fun i hi => absurd hi (Nat.not_lt_zero _)
  | M + 1, hy, hz, e => by
    have h1 := en_lt (M := M) fun i hi => hy i (by omega)
    have h2 := en_lt (M := M) fun i hi => hz i (by omega)
    rw [en, en] at e
    have hR : 0 < R ^ M := by omega
    have q1 : (en R y M + y M * R ^ M) / R ^ M = y M := by rw [Nat.add_mul_div_right _ _ hR, Nat.div_eq_of_lt h1, Nat.zero_add]
    have q2 : (en R z M + z M * R ^ M) / R ^ M = z M := by rw [Nat.add_mul_div_right _ _ hR, Nat.div_eq_of_lt h2, Nat.zero_add]
    have eM : y M = z M := by rw [← q1, ← q2, e]
    have e2 : en R y M = en R z M := by rw [eM] at e; omega
    intro i hi
    by_cases h : i = M
    · rw [h]; exact eM
    · exact en_ext (fun i hi => hy i (by omega)) (fun i hi => hz i (by omega)) e2 i (by omega)
def zs (f : Nat → Int) : Nat → Int
  | 0 => 0
  | n + 1 => zs f n + f n
theorem zs_sub (f g : Nat → Int) : ∀ n, zs (fun j => f j - g j) n = zs f n - zs g n
  | 0 => rfl
  | n + 1 => by rw [zs, zs, zs, zs_sub f g n]; omega
theorem zs_congr {f g : Nat → Int} : ∀ {n : Nat}, (∀ j, j < n → f j = g j) → zs f n = zs g n
  | 0, _ => rfl
  | n + 1, h => by rw [zs, zs, zs_congr fun j hj => h j (by omega), h n (Nat.lt_succ_self _)]
theorem zs_le {f : Nat → Int} {B : Nat} : ∀ {n : Nat}, (∀ j, j < n → (f j).natAbs ≤ B) → (zs f n).natAbs ≤ n * B
  | 0, _ => by rw [Nat.zero_mul]; exact Nat.le_refl _
  | n + 1, h => by
    have h1 := zs_le (n := n) fun j hj => h j (by omega)
    have h2 := h n (Nat.lt_succ_self _)
    rw [zs, Nat.succ_mul]
    omega
theorem siegel (M N A : Nat) (a : Nat → Nat → Int) (hN : M < N) (hA : 0 < A) (ha : ∀ i j, j < N → (a i j).natAbs ≤ A) :
    ∃ x : Nat → Int, (∃ j, j < N ∧ x j ≠ 0) ∧ (∀ j, (x j).natAbs ≤ (2 * N * A) ^ M) ∧ ∀ i, i < M → zs (fun j => a i j * x j) N = 0 := by
  generalize hH : (2 * N * A) ^ M = H
  have nA : 0 < N * A := Nat.mul_pos (by omega) hA
  -- the values
  let w : Nat → Nat → Int := fun c i => zs (fun j => a i j * ((dg (H + 1) c j : Nat) : Int)) N
  have wb : ∀ c i, (w c i).natAbs ≤ N * (A * H) := fun c i => zs_le fun j hj => by
    rw [Int.natAbs_mul, Int.natAbs_natCast]
    refine Nat.mul_le_mul (ha i j hj) ?_
    have : dg (H + 1) c j < H + 1 := Nat.mod_lt _ (Nat.succ_pos _)
    omega
  let y : Nat → Nat → Nat := fun c i => (w c i + ((N * (A * H) : Nat) : Int)).toNat
  have yb : ∀ c i, y c i < 2 * (N * (A * H)) + 1 := fun c i => by
    have := wb c i
    show (w c i + ((N * (A * H) : Nat) : Int)).toNat < _
    omega
  have cnt : (2 * (N * (A * H)) + 1) ^ M < (H + 1) ^ N := by
    have e1 : 2 * (N * (A * H)) + 1 ≤ (2 * N * A) * (H + 1) := by
      have : 2 * (N * (A * H)) = (2 * N * A) * H := by rw [← Nat.mul_assoc N, ← Nat.mul_assoc 2, ← Nat.mul_assoc 2]
      have h2 : (2 * N * A) * (H + 1) = (2 * N * A) * H + 2 * N * A := Nat.mul_succ _ _
      have h3 : 2 * N * A = 2 * (N * A) := Nat.mul_assoc _ _ _
      omega
    have e2 : (2 * (N * (A * H)) + 1) ^ M ≤ H * (H + 1) ^ M := by
      refine Nat.le_trans (Nat.pow_le_pow_left e1 M) ?_
      rw [Nat.mul_pow, hH]
      exact Nat.le_refl _
    have e3 : H * (H + 1) ^ M < (H + 1) ^ (M + 1) := by
      rw [Nat.pow_succ, Nat.mul_comm]
      exact Nat.mul_lt_mul_of_pos_left (Nat.lt_succ_self _) (Nat.pow_pos (Nat.succ_pos _))
    exact Nat.lt_of_le_of_lt e2 (Nat.lt_of_lt_of_le e3 (Nat.pow_le_pow_right (Nat.succ_pos _) hN))
  obtain ⟨c, d, hcd, hd, e⟩ := pigeon _ _ (fun c => en (2 * (N * (A * H)) + 1) (y c) M) (fun c _ => en_lt fun i _ => yb c i) cnt
  have ey := en_ext (fun i _ => yb c i) (fun i _ => yb d i) e
  refine ⟨fun j => ((dg (H + 1) c j : Nat) : Int) - ((dg (H + 1) d j : Nat) : Int), ?_, fun j => ?_, fun i hi => ?_⟩
  · rcases Classical.em (∃ j, j < N ∧ ((dg (H + 1) c j : Nat) : Int) - ((dg (H + 1) d j : Nat) : Int) ≠ 0) with h | h
    · exact h
    · have := dg_ext (Nat.succ_pos H) N c d (Nat.lt_trans hcd hd) hd fun j hj => by
        rcases Classical.em (dg (H + 1) c j = dg (H + 1) d j) with h2 | h2
        · exact h2
        · exact absurd ⟨j, hj, by omega⟩ h
      omega
  · have h1 : dg (H + 1) c j < H + 1 := Nat.mod_lt _ (Nat.succ_pos _)
    have h2 : dg (H + 1) d j < H + 1 := Nat.mod_lt _ (Nat.succ_pos _)
    show (((dg (H + 1) c j : Nat) : Int) - ((dg (H + 1) d j : Nat) : Int)).natAbs ≤ H
    omega
  · have h1 := ey i hi
    have h2 := wb c i
    have h3 := wb d i
    have h4 : w c i = w d i := by
      have h1 : (w c i + ((N * (A * H) : Nat) : Int)).toNat = (w d i + ((N * (A * H) : Nat) : Int)).toNat := h1
      omega
    have e2 : (fun j => a i j * (((dg (H + 1) c j : Nat) : Int) - ((dg (H + 1) d j : Nat) : Int))) = fun j => a i j * ((dg (H + 1) c j : Nat) : Int) - a i j * ((dg (H + 1) d j : Nat) : Int) := by
      funext j
      exact Int.mul_sub _ _ _
    show zs (fun j => a i j * (((dg (H + 1) c j : Nat) : Int) - ((dg (H + 1) d j : Nat) : Int))) N = 0
    rw [e2, zs_sub]
    show w c i - w d i = 0
    omega
end DL

set_option linter.all false
set_option autoImplicit false
namespace DL
/-! ### rows of small whole numbers that solve a system of rows -/
theorem getD_addL (p q : List Rat) (d : Nat) : (addL p q).getD d 0 = p.getD d 0 + q.getD d 0 := by
  induction p generalizing q d with
  | nil => rw [addL]; show _ = (0 : Rat) + _; rw [Rat.zero_add]
  | cons a p ih =>
    cases q with
    | nil => rw [addL]; show _ = _ + (0 : Rat); rw [Rat.add_zero]
    | cons b q =>
      rw [addL]
      cases d with
      | zero => rfl
      | succ d => exact ih q d
theorem getD_scl (c : Rat) (l : List Rat) (d : Nat) : (sclL c l).getD d 0 = l.getD d 0 * c := by
  unfold sclL
  rw [List.getD_eq_getElem?_getD, List.getD_eq_getElem?_getD, List.getElem?_map]
  cases l[d]? with
  | some a => rfl
  | none => show (0 : Rat) = 0 * c; rw [Rat.zero_mul]
theorem getD_short {l : List Rat} {d : Nat} (h : l.length ≤ d) : l.getD d 0 = 0 := by
  rw [List.getD_eq_getElem?_getD, List.getElem?_eq_none_iff.mpr h]
  rfl
theorem trim_short : ∀ (l : List Rat) (k : Nat), (∀ d, k ≤ d → l.getD d 0 = 0) → (trim l).length ≤ k
  | [], k, _ => Nat.zero_le _
  | a :: l, 0, h => by
    have h2 := trim_short l 0 fun d _ => h (d + 1) (Nat.zero_le _)
    have h3 : trim l = [] := List.length_eq_zero_iff.mp (by omega)
    have h4 : a = 0 := h 0 (Nat.le_refl _)
    rw [trim, if_pos h3, if_pos h4]
    exact Nat.le_refl _
  | a :: l, k + 1, h => by
    have h2 := trim_short l k fun d hd => h (d + 1) (by omega)
    rw [trim]
    split
    · split
      · exact Nat.zero_le _
      · exact Nat.le_add_left _ _
    · rw [List.length_cons]; omega
def lin (x : Nat → Int) (b : Nat → List Rat) : Nat → List Rat
  | 0 => []
  | n + 1 => addL (lin x b n) (sclL (x n : Rat) (b n))
theorem ce_getD {B : Nat} {l : List Rat} (h : Ce 1 B l) (d : Nat) : ((l.getD d 0).num : Rat) = l.getD d 0 ∧ (l.getD d 0).num.natAbs ≤ B := by
  have one : ∀ a : Rat, Ib B (a * ((1 : Nat) : Rat)) → ((a.num : Int) : Rat) = a ∧ a.num.natAbs ≤ B := fun a ha => by
    obtain ⟨z, e, hz⟩ := ha
    have e1 : a = (z : Rat) := by rw [← e]; show a = a * 1; rw [Rat.mul_one]
    rw [e1, Rat.num_intCast]
    exact ⟨rfl, hz⟩
  rw [List.getD_eq_getElem?_getD]
  cases e : l[d]? with
  | some a => exact one a (h a (List.mem_of_getElem? e))
  | none => exact ⟨rfl, Nat.zero_le _⟩
theorem lin_getD {B N : Nat} {x : Nat → Int} {b : Nat → List Rat} (d : Nat) (hb : ∀ j, j < N → Ce 1 B (b j)) : ∀ n, n ≤ N → (lin x b n).getD d 0 = ((zs (fun j => ((b j).getD d 0).num * x j) n : Int) : Rat)
  | 0, _ => rfl
  | n + 1, hn => by
    rw [lin, zs, getD_addL, getD_scl, lin_getD d hb n (by omega), Rat.intCast_add, Rat.intCast_mul, (ce_getD (hb n hn) d).1]
theorem lin_ce {B H N : Nat} {x : Nat → Int} {b : Nat → List Rat} (hb : ∀ j, j < N → Ce 1 B (b j)) (hx : ∀ j, (x j).natAbs ≤ H) : ∀ n, n ≤ N → Ce 1 (n * (B * H)) (lin x b n)
  | 0, _ => .nil
  | n + 1, hn => by
    have h1 := lin_ce hb hx n (by omega)
    have h2 : Ib H ((x n : Rat) * ((1 : Nat) : Rat)) := ⟨x n, by show _ * (1 : Rat) = _; rw [Rat.mul_one], hx n⟩
    have h3 := (hb n hn).scl h2
    rw [lin, Nat.succ_mul]
    exact h1.add h3
theorem comb (k M N B : Nat) (b : Nat → List Rat) (hN : M < N) (hB : 0 < B) (hl : ∀ j, j < N → (b j).length ≤ k + M) (hb : ∀ j, j < N → Ce 1 B (b j)) :
    ∃ x : Nat → Int, (∃ j, j < N ∧ x j ≠ 0) ∧ (∀ j, (x j).natAbs ≤ (2 * N * B) ^ M) ∧ (trim (lin x b N)).length ≤ k := by
  obtain ⟨x, h1, h2, h3⟩ := siegel M N B (fun i j => ((b j).getD (k + i) 0).num) hN hB fun i j hj => (ce_getD (hb j hj) _).2
  refine ⟨x, h1, h2, trim_short _ _ fun d hd => ?_⟩
  rw [lin_getD d hb N (Nat.le_refl _)]
  rcases Nat.lt_or_ge d (k + M) with h | h
  · have := h3 (d - k) (by omega)
    have e : (fun j => ((b j).getD d 0).num * x j) = fun j => ((b j).getD (k + (d - k)) 0).num * x j := by rw [show k + (d - k) = d by omega]
    rw [e, this]
    rfl
  · have z : ∀ n, n ≤ N → zs (fun j => ((b j).getD d 0).num * x j) n = 0 := fun n => by
      induction n with
      | zero => intro _; rfl
      | succ n ih =>
        intro hn
        rw [zs, ih (by omega), getD_short (Nat.le_trans (hl n hn) h)]
        show (0 : Int) + 0 * x n = 0
        omega
    rw [z N (Nat.le_refl _)]
    rfl
theorem ev_lin_shift (x : Nat → Int) (P : List Rat) (y : Rat) : ∀ n, ev (lin x (fun j => List.replicate j 0 ++ P) n) y = ev ((List.range n).map fun j => (x j : Rat)) y * ev P y
  | 0 => by show (0 : Rat) = 0 * _; rw [Rat.zero_mul]
  | n + 1 => by
    rw [lin, ev_add, ev_scl, ev_lin_shift x P y n, List.range_succ, List.map_append, ev_append, ev_append, ev_zeros, List.length_replicate, List.length_map, List.length_range]
    show _ = (_ + y ^ n * ev [(x n : Rat)] y) * _
    rw [ev_cons, ev_nil]
    grind
theorem lin_congr {x : Nat → Int} {b c : Nat → List Rat} : ∀ {n : Nat}, (∀ j, j < n → b j = c j) → lin x b n = lin x c n
  | 0, _ => rfl
  | n + 1, h => by rw [lin, lin, lin_congr fun j hj => h j (by omega), h n (Nat.lt_succ_self _)]
theorem ev_lin_add (x : Nat → Int) (b : Nat → List Rat) (m : Nat) (y : Rat) : ∀ n, ev (lin x b (m + n)) y = ev (lin x b m) y + ev (lin (fun j => x (m + j)) (fun j => b (m + j)) n) y
  | 0 => by show _ = _ + (0 : Rat); rw [Rat.add_zero]; rfl
  | n + 1 => by
    show ev (addL (lin x b (m + n)) (sclL (x (m + n) : Rat) (b (m + n)))) y = _
    rw [ev_add, ev_lin_add x b m y n, lin, ev_add]
    grind
theorem ev_scl_map (x : Nat → Int) (E : Rat) (n : Nat) (y : Rat) : ev ((List.range n).map fun j => (x j : Rat) * E) y = ev ((List.range n).map fun j => (x j : Rat)) y * E := by
  rw [← ev_scl]
  unfold sclL
  rw [List.map_map]
  rfl
theorem trim_nil {l : List Rat} (h : trim l = []) : ∀ a ∈ l, a = 0 := ev_zero l fun x => by rw [← ev_trim, h, ev_nil]
/-- the whole numbers' bits -/
def zB (m M : Nat) : Nat := (m + 7) * (M + 1)
theorem small {m ls lt k M : Nat} {p q : List Rat} (sp : Sr m p) (sq : Sr m q) (h1 : p.length + ls ≤ k + M + 1) (h2 : q.length + lt ≤ k + M + 1) (hN : M < ls + lt) (hM : ls + lt ≤ 64) :
    ∃ (C : Nat) (s t r : List Rat), C < 2 ^ zB m M ∧ (s ≠ [] ∨ t ≠ []) ∧ IsRow s ∧ IsRow t ∧ IsRow r ∧ s.length ≤ ls ∧ t.length ≤ lt ∧ r.length ≤ k ∧ Ce 1 C s ∧ Ce 1 C t ∧ Ce 1 C r ∧ ∀ y, ev s y * ev p y + ev t y * ev q y = ev r y := by
  obtain ⟨E, B, e0, e1, e2, e3⟩ := sp
  obtain ⟨F, D, f0, f1, f2, f3⟩ := sq
  have ceP : ∀ {G C : Nat} {l : List Rat}, Ce G C l → Ce 1 C (sclL (G : Rat) l) := fun {G C l} h a ha => by
    obtain ⟨z, hz, rfl⟩ := List.mem_map.mp ha
    have : z * (G : Rat) * ((1 : Nat) : Rat) = z * G := Rat.mul_one _
    rw [this]
    exact h z hz
  let b : Nat → List Rat := fun j => if j < ls then List.replicate j 0 ++ sclL (E : Rat) p else List.replicate (j - ls) 0 ++ sclL (F : Rat) q
  have hb : ∀ j, j < ls + lt → Ce 1 (2 ^ m) (b j) := fun j _ => by
    show Ce 1 (2 ^ m) (if j < ls then _ else _)
    split
    · exact .append .zeros ((ceP e3).up (by omega))
    · exact .append .zeros ((ceP f3).up (by omega))
  have hl : ∀ j, j < ls + lt → (b j).length ≤ k + M := fun j hj => by
    show (if j < ls then _ else _ : List Rat).length ≤ _
    split
    · rw [List.length_append, List.length_replicate, sclL_len]; omega
    · rw [List.length_append, List.length_replicate, sclL_len]; omega
  obtain ⟨x, x1, x2, x3⟩ := comb k M (ls + lt) (2 ^ m) b hN (Nat.two_pow_pos m) hl hb
  have hH : (2 * (ls + lt) * 2 ^ m) ^ M ≤ 2 ^ ((m + 7) * M) := by
    rw [Nat.pow_mul]
    refine Nat.pow_le_pow_left ?_ M
    rw [Nat.pow_add, Nat.mul_comm]
    exact Nat.mul_le_mul_left _ (by show _ ≤ 128; omega)
  generalize (2 * (ls + lt) * 2 ^ m) ^ M = H at hH x2
  have eZ : zB m M = m + 7 + (m + 7) * M := by unfold zB; rw [Nat.mul_succ, Nat.add_comm]
  have p7 : 2 ^ (m + 7) = 128 * 2 ^ m := by rw [Nat.pow_add, Nat.mul_comm]
  have HZ : 128 * 2 ^ m * H ≤ 2 ^ zB m M := by
    rw [eZ, Nat.pow_add (a := 2) (m := m + 7), ← p7]
    exact Nat.mul_le_mul_left _ hH
  have cx : ∀ {G : Nat} (n : Nat) (f : Nat → Nat), G < 2 ^ m → Ce 1 (64 * 2 ^ m * H) (trim ((List.range n).map fun j => (x (f j) : Rat) * G)) := fun {G} n f hG => by
    refine Ce.trim fun a ha => ?_
    obtain ⟨j, _, rfl⟩ := List.mem_map.mp ha
    refine ⟨x (f j) * G, ?_, ?_⟩
    · rw [Rat.intCast_mul]; exact Rat.mul_one _
    · rw [Int.natAbs_mul, Int.natAbs_natCast, Nat.mul_comm]
      refine Nat.mul_le_mul ?_ (x2 _)
      omega
  refine ⟨64 * 2 ^ m * H, trim ((List.range ls).map fun j => (x j : Rat) * E), trim ((List.range lt).map fun j => (x (ls + j) : Rat) * F), trim (lin x b (ls + lt)), ?_, ?_, row_trim _, row_trim _, row_trim _, ?_, ?_, x3, cx ls _ e1, cx lt _ f1, ?_, fun y => ?_⟩
  · have pm := Nat.two_pow_pos m
    have pz := Nat.two_pow_pos (zB m M)
    have e : 128 * 2 ^ m * H = 2 * (64 * 2 ^ m * H) := by rw [← Nat.mul_assoc, ← Nat.mul_assoc]
    omega
  · obtain ⟨j, hj, xj⟩ := x1
    have xr : ∀ G : Nat, 0 < G → (x j : Rat) * G ≠ 0 := fun G hG z => by
      rcases Rat.mul_eq_zero.mp z with h | h
      · exact xj (Rat.intCast_inj.mp (h.trans (show (0 : Rat) = ((0 : Int) : Rat) from rfl)))
      · have := Rat.natCast_inj.mp (h.trans (show (0 : Rat) = ((0 : Nat) : Rat) from rfl)); omega
    rcases Nat.lt_or_ge j ls with h | h
    · exact .inl fun z => xr E e0 (trim_nil z _ (List.mem_map.mpr ⟨j, List.mem_range.mpr h, rfl⟩))
    · exact .inr fun z => xr F f0 (trim_nil z _ (List.mem_map.mpr ⟨j - ls, List.mem_range.mpr (by omega), by rw [show ls + (j - ls) = j by omega]⟩))
  · have := trim_len ((List.range ls).map fun j => (x j : Rat) * E)
    rw [List.length_map, List.length_range] at this
    exact this
  · have := trim_len ((List.range lt).map fun j => (x (ls + j) : Rat) * F)
    rw [List.length_map, List.length_range] at this
    exact this
  · refine ((lin_ce hb x2 _ (Nat.le_refl _)).up ?_).trim
    rw [← Nat.mul_assoc]
    exact Nat.mul_le_mul_right _ (Nat.mul_le_mul_right _ hM)
  · rw [ev_trim, ev_trim, ev_trim, ev_lin_add, ev_scl_map, ev_scl_map (fun j => x (ls + j))]
    have g1 : lin x b ls = lin x (fun j => List.replicate j 0 ++ sclL (E : Rat) p) ls := lin_congr fun j hj => if_pos hj
    have g2 : lin (fun j => x (ls + j)) (fun j => b (ls + j)) lt = lin (fun j => x (ls + j)) (fun j => List.replicate j 0 ++ sclL (F : Rat) q) lt := lin_congr fun j hj => by
      show (if ls + j < ls then _ else _) = _
      rw [if_neg (by omega), Nat.add_sub_cancel_left]
    rw [g1, g2, ev_lin_shift, ev_lin_shift, ev_scl, ev_scl]
    grind
end DL

set_option linter.all false
set_option autoImplicit false
namespace DL
/-! ### lengths of rows -/
theorem addL_snoc (A : List Rat) (c : Rat) (b : List Rat) (h : b.length ≤ A.length) : addL (A ++ [c]) b = addL A b ++ [c] := by
  induction A generalizing b with
  | nil =>
    rw [List.length_eq_zero_iff.mp (Nat.le_zero.mp h)]
    rfl
  | cons a A ih =>
    cases b with
    | nil => rfl
    | cons d b => show (a + d) :: addL (A ++ [c]) b = _; rw [ih b (Nat.le_of_succ_le_succ h)]; rfl
theorem add_row_len {a b : List Rat} (ha : IsRow a) (h : b.length < a.length) : (trim (addL a b)).length = a.length := by
  rcases snoc_cases a with rfl | ⟨A, c, rfl⟩
  · exact absurd h (Nat.not_lt_zero _)
  · have c0 := snoc_row ha
    rw [List.length_append] at h
    have h2 : b.length < A.length + 1 := h
    rw [addL_snoc _ _ _ (by omega), trim_last _ _ c0, List.length_append, List.length_append, addL_len]
    omega
theorem scl_row {c : Rat} (hc : c ≠ 0) {a : List Rat} (ha : IsRow a) : IsRow (sclL c a) := by
  rcases snoc_cases a with rfl | ⟨A, t, rfl⟩
  · exact row_nil
  · have t0 := snoc_row ha
    unfold sclL
    rw [List.map_append]
    exact row_snoc _ (rat_mul_ne t0 hc)
theorem row_len_scl {c : Rat} (hc : c ≠ 0) {a b : List Rat} (ha : IsRow a) (hb : IsRow b) (h : ∀ x, ev b x = ev a x * c) : b.length = a.length := by
  have e : b = sclL c a := row_ext hb (scl_row hc ha) fun x => by rw [h, ev_scl]
  rw [e, sclL_len]
theorem row_zero {a : List Rat} (ha : IsRow a) (h : ∀ x, ev a x = 0) : a = [] := (row_eq_nil_iff ha).mpr h
/-- a product that is shorter than one of its rows is nought -/
theorem mul_short {D p : List Rat} {n : Nat} {f : List Rat} (hD : IsRow D) (hp : IsRow p) (p0 : p ≠ []) (hf : f.length < p.length) (h : ∀ x, ev D x * ev p x = ev f x) : D = [] := by
  rcases Classical.em (D = []) with d0 | d0
  · exact d0
  · have h1 := mul_row_len hD hp d0 p0
    have h2 : trim (mulL D p) = trim f := trim_ext _ _ fun x => by rw [ev_mul, h]
    have h3 := trim_len f
    have h4 := List.length_pos_iff.mpr d0
    rw [h2] at h1
    omega
theorem ev_cancel {g a b : List Rat} (hg : IsRow g) (g0 : g ≠ []) (ha : IsRow a) (hb : IsRow b) (h : ∀ x, ev a x * ev g x = ev b x * ev g x) : a = b := by
  have d : trim (addL a (sclL (-1) b)) = [] := mul_short (n := 0) (f := []) (row_trim _) hg g0 (List.length_pos_iff.mpr g0) fun x => by
    have := h x
    rw [ev_trim, ev_add, ev_scl, ev_nil]
    grind
  refine row_ext ha hb fun x => ?_
  have := (row_eq_nil_iff (row_trim _)).mp d x
  rw [ev_trim, ev_add, ev_scl] at this
  grind
/-- a row of which a product with another one is no longer than that is a number -/
theorem mul_const {al a b : List Rat} (hal : IsRow al) (ha : IsRow a) (hb : IsRow b) (a0 : a ≠ []) (b0 : b ≠ []) (h : ∀ x, ev b x = ev al x * ev a x) (hl : b.length ≤ a.length) : ∃ c : Rat, c ≠ 0 ∧ al = [c] := by
  have al0 : al ≠ [] := fun z => b0 (row_zero hb fun x => by rw [h, z, ev_nil, Rat.zero_mul])
  have h1 := mul_row_len hal ha al0 a0
  have h2 : trim (mulL al a) = b := row_ext (row_trim _) hb fun x => by rw [ev_trim, ev_mul, h]
  rw [h2] at h1
  have h3 := List.length_pos_iff.mpr al0
  obtain ⟨c, hc⟩ := List.length_eq_one_iff.mp (show al.length = 1 by omega)
  refine ⟨c, fun z => ?_, hc⟩
  have : IsRow ([] ++ [c]) := by rw [hc] at hal; exact hal
  exact snoc_row this z
/-! the greatest row that divides both -/
noncomputable def gcd (p q : List Rat) : List Rat := (shT p q).1
theorem monic_uniq {g h : List Rat} (hg : ∃ l, g = l ++ [1]) (hh : ∃ l, h = l ++ [1]) (d1 : Dvd g h) (d2 : Dvd h g) : g = h := by
  obtain ⟨G, rfl⟩ := hg
  obtain ⟨H, rfl⟩ := hh
  have rg : IsRow (G ++ [1]) := row_snoc _ (by decide)
  have rh : IsRow (H ++ [1]) := row_snoc _ (by decide)
  have g0 : G ++ [1] ≠ [] := by simp
  have h0 : H ++ [1] ≠ [] := by simp
  have le : ∀ {a b : List Rat}, IsRow a → IsRow b → a ≠ [] → b ≠ [] → Dvd a b → a.length ≤ b.length := fun {a b} ha hb a0 b0 h => by
    obtain ⟨u, hu⟩ := h
    have u0 : trim u ≠ [] := fun z => b0 (row_zero hb fun x => by rw [hu, ← ev_trim u, z, ev_nil, Rat.zero_mul])
    have h1 := mul_row_len (row_trim u) ha u0 a0
    have h2 : trim (mulL (trim u) a) = b := row_ext (row_trim _) hb fun x => by rw [ev_trim, ev_mul, ev_trim, hu]
    rw [h2] at h1
    have := List.length_pos_iff.mpr u0
    omega
  have l1 := le rg rh g0 h0 d1
  have l2 := le rh rg h0 g0 d2
  obtain ⟨u, hu⟩ := d1
  obtain ⟨c, c0, hc⟩ := mul_const (row_trim u) rg rh g0 h0 (fun x => by rw [ev_trim]; exact hu x) l2
  have e : H ++ [1] = sclL c (G ++ [1]) := row_ext rh (scl_row c0 rg) fun x => by
    rw [ev_scl, hu, ← ev_trim u, hc, ev_cons, ev_nil]
    grind
  have e2 : sclL c (G ++ [1]) = sclL c G ++ [1 * c] := by unfold sclL; rw [List.map_append]; rfl
  rw [e2] at e
  have e3 := List.append_inj_right' e rfl
  have c1 : c = 1 := by
    have : (1 : Rat) = 1 * c := by injection e3
    grind
  refine row_ext rg rh fun x => ?_
  rw [hu, ← ev_trim u, hc, c1, ev_cons, ev_nil]
  grind
theorem dvd_comb {g p q h s t : List Rat} (d1 : Dvd g p) (d2 : Dvd g q) (e : ∀ x, ev s x * ev p x + ev t x * ev q x = ev h x) : Dvd g h := by
  obtain ⟨u, hu⟩ := d1
  obtain ⟨v, hv⟩ := d2
  refine ⟨addL (mulL s u) (mulL t v), fun x => ?_⟩
  rw [← e, hu, hv, ev_add, ev_mul, ev_mul]
  grind
/-- what has these is the greatest -/
theorem gcd_of {p q g s t : List Rat} (hp : IsRow p) (hq : IsRow q) (hne : p ≠ [] ∨ q ≠ []) (hg : ∃ l, g = l ++ [1]) (d1 : Dvd g p) (d2 : Dvd g q) (e : ∀ x, ev s x * ev p x + ev t x * ev q x = ev g x) : g = gcd p q := by
  have F := shT_facts hp hq
  exact monic_uniq hg (F.led hne) (dvd_comb d1 d2 F.eq) (dvd_comb F.dp F.dq e)
theorem gcd_row {p q : List Rat} (hp : IsRow p) (hq : IsRow q) : IsRow (gcd p q) := (shT_facts hp hq).r0
/-! a row by its last fraction -/
noncomputable def ledR (l : List Rat) : List Rat := trim (sclL (1 / lead l) l)
theorem ledR_nil : ledR [] = [] := rfl
theorem lead_ne {l : List Rat} (h : IsRow l) (h0 : l ≠ []) : lead l ≠ 0 := by
  rcases snoc_cases l with rfl | ⟨L, a, rfl⟩
  · exact absurd rfl h0
  · rw [lead_snoc]; exact snoc_row h
theorem inv_ne {a : Rat} (h : a ≠ 0) : 1 / a ≠ 0 := fun z => by
  have : a * (1 / a) = 1 := by grind
  rw [z, Rat.mul_zero] at this
  exact absurd this (by decide)
theorem ledR_eq {l : List Rat} (h : IsRow l) (h0 : l ≠ []) : ∃ L, ledR l = L ++ [1] ∧ l.length = L.length + 1 := by
  have hl := lead_ne h h0
  rcases snoc_cases l with rfl | ⟨L, a, rfl⟩
  · exact absurd rfl h0
  · rw [lead_snoc] at hl
    refine ⟨sclL (1 / a) L, ?_, by rw [List.length_append, sclL_len]; rfl⟩
    unfold ledR
    rw [lead_snoc]
    have e2 : sclL (1 / a) (L ++ [a]) = sclL (1 / a) L ++ [1] := by
      unfold sclL
      rw [List.map_append]
      have : a * (1 / a) = 1 := by grind
      show _ ++ [a * (1 / a)] = _
      rw [this]
    rw [e2, trim_last _ _ (by decide)]
theorem ev_ledR (l : List Rat) (x : Rat) : ev (ledR l) x = ev l x * (1 / lead l) := by unfold ledR; rw [ev_trim, ev_scl]
theorem ledR_row (l : List Rat) : IsRow (ledR l) := row_trim _
theorem ledR_len {l : List Rat} (h : IsRow l) : (ledR l).length = l.length := by
  rcases Classical.em (l = []) with rfl | h0
  · rfl
  · obtain ⟨L, e, hl⟩ := ledR_eq h h0
    rw [e, hl, List.length_append]; rfl
/-- small whole numbers in the same ratio: small when led -/
theorem led_sr {Z C : Nat} {a b a' b' : List Rat} {c : Rat} (hC : C < 2 ^ Z) (hc : c ≠ 0) (ra : IsRow a) (a0 : a ≠ []) (ra' : IsRow a') (rb' : IsRow b') (ca : Ce 1 C a') (cb : Ce 1 C b') (ea : ∀ x, ev a' x = ev a x * c) (eb : ∀ x, ev b' x = ev b x * c) : Sr Z (trim (sclL (1 / lead a) b)) := by
  have e1 : a' = sclL c a := row_ext ra' (scl_row hc ra) fun x => by rw [ea, ev_scl]
  have la := lead_ne ra a0
  have e2 : lead a' = lead a * c := by
    rw [e1]
    rcases snoc_cases a with rfl | ⟨A, t, rfl⟩
    · exact absurd rfl a0
    · unfold sclL
      rw [List.map_append, lead_snoc]
      exact lead_snoc _ _
  have a0' : a' ≠ [] := by rw [e1]; intro z; exact a0 (List.map_eq_nil_iff.mp z)
  have hz : ∃ z : Int, lead a' = (z : Rat) ∧ z.natAbs ≤ C := by
    rcases snoc_cases a' with h | ⟨A, t, h⟩
    · exact absurd h a0'
    · obtain ⟨z, e, hz⟩ := ca t (by rw [h]; exact List.mem_append_right _ (List.mem_singleton.mpr rfl))
      refine ⟨z, ?_, hz⟩
      rw [h, lead_snoc, ← e]
      exact (Rat.mul_one _).symm
  obtain ⟨z, ez, hz⟩ := hz
  have z0 : (z : Rat) ≠ 0 := by rw [← ez, e2]; exact rat_mul_ne la hc
  have e3 : trim (sclL (1 / lead a) b) = trim (sclL (1 / (z : Rat)) b') := trim_ext _ _ fun x => by
    rw [ev_scl, ev_scl, eb, ← ez, e2]
    grind
  rw [e3]
  have zp : 0 < z.natAbs := Int.natAbs_pos.mpr fun h => z0 (by rw [h]; rfl)
  refine Sr.trim ⟨z.natAbs, C, zp, by omega, hC, fun q hq => ?_⟩
  obtain ⟨d, hd, rfl⟩ := List.mem_map.mp hq
  obtain ⟨u, eu, hu⟩ := cb d hd
  have eu : d = (u : Rat) := by rw [← eu]; exact (Rat.mul_one _).symm
  have h3 : ((z.natAbs : Nat) : Rat) = (((z.natAbs : Nat) : Int) : Rat) := rfl
  rcases Int.natAbs_eq z with e | e
  · refine ⟨u, ?_, hu⟩
    rw [h3, ← e, eu]
    grind
  · refine ⟨-u, ?_, by omega⟩
    have h4 : ((z.natAbs : Nat) : Int) = -z := by omega
    rw [h3, h4, eu, Rat.intCast_neg, Rat.intCast_neg]
    grind
end DL

set_option linter.all false
set_option autoImplicit false
namespace DL
theorem dvd_short {g r : List Rat} (hg : IsRow g) (g0 : g ≠ []) (hr : IsRow r) (h : Dvd g r) (hl : r.length < g.length) : r = [] := by
  obtain ⟨u, hu⟩ := h
  have d := mul_short (n := 0) (row_trim u) hg g0 hl fun x => by rw [ev_trim]; exact (hu x).symm
  exact row_zero hr fun x => by rw [hu, ← ev_trim u, d, ev_nil, Rat.zero_mul]
theorem mulR_len (a b : List Rat) : (trim (mulL a b)).length ≤ a.length + b.length - 1 := by
  rcases Classical.em (b = []) with rfl | h
  · have : trim (mulL a []) = [] := (trim_ext _ [] fun x => by rw [ev_mul, ev_nil, Rat.mul_zero]).trans rfl
    rw [this]
    exact Nat.zero_le _
  · exact Nat.le_trans (trim_len _) (mulL_len1 a b h)
theorem mulR_nil (a : List Rat) : trim (mulL a []) = [] := (trim_ext _ [] fun x => by rw [ev_mul, ev_nil, Rat.mul_zero]).trans rfl
theorem gcd_ne {p q : List Rat} (hp : IsRow p) (hq : IsRow q) (h : p ≠ [] ∨ q ≠ []) : gcd p q ≠ [] := by
  obtain ⟨l, e⟩ := (shT_facts hp hq).led h
  show (shT p q).1 ≠ []
  rw [e]
  simp
theorem cof_len {p g u : List Rat} (hp : IsRow p) (hg : IsRow g) (hu : IsRow u) (p0 : p ≠ []) (h : ∀ x, ev p x = ev u x * ev g x) : u ≠ [] ∧ g ≠ [] ∧ u.length + g.length = p.length + 1 := by
  have u0 : u ≠ [] := fun z => p0 (row_zero hp fun x => by rw [h, z, ev_nil, Rat.zero_mul])
  have g0 : g ≠ [] := fun z => p0 (row_zero hp fun x => by rw [h, z, ev_nil, Rat.mul_zero])
  have h1 := mul_row_len hu hg u0 g0
  have h2 : trim (mulL u g) = p := row_ext (row_trim _) hp fun x => by rw [ev_trim, ev_mul, h]
  rw [h2] at h1
  exact ⟨u0, g0, by omega⟩
theorem zB_mono {m M N : Nat} (h : M ≤ N) : zB m M ≤ zB m N := Nat.mul_le_mul_left _ (Nat.succ_le_succ h)
/-- a quotient's two rows in lowest terms are small -/
theorem low_sz {m L : Nat} {p q u v : List Rat} (hp : IsRow p) (hq : IsRow q) (q0 : q ≠ []) (lp : p.length ≤ L) (lq : q.length ≤ L) (hL : L ≤ 31) (sp : Sr m p) (sq : Sr m q) (ru : IsRow u) (rv : IsRow v) (hu : ∀ x, ev p x = ev u x * ev (gcd p q) x) (hv : ∀ x, ev q x = ev v x * ev (gcd p q) x) :
    Sr (zB m (2 * L)) (trim (sclL (1 / lead v) u)) ∧ Sr (zB m (2 * L)) (ledR v) := by
  have F := shT_facts hp hq
  have rg := gcd_row hp hq
  obtain ⟨v0, g0, lv⟩ := cof_len hq rg rv q0 hv
  have gp := List.length_pos_iff.mpr g0
  have vp := List.length_pos_iff.mpr v0
  have qp := List.length_pos_iff.mpr q0
  have gn : p ≠ [] → (gcd p q).length ≤ p.length := fun p0 => by
    obtain ⟨u0, _, lu⟩ := cof_len hp rg ru p0 hu
    have := List.length_pos_iff.mpr u0
    omega
  have hpl : p.length + 1 ≤ p.length + 1 - (gcd p q).length + (gcd p q).length := by
    rcases Classical.em (p = []) with rfl | p0
    · show 0 + 1 ≤ _; omega
    · have := gn p0; omega
  have hlt : p.length + 1 - (gcd p q).length ≤ L := by omega
  obtain ⟨C, s, t, r, hC, hst, rs, rt, rr, ls, lt, lr, cs, ct, cr, he⟩ := small (ls := v.length) (lt := p.length + 1 - (gcd p q).length) (k := (gcd p q).length - 1) (M := v.length + (p.length + 1 - (gcd p q).length) - 1) sp sq (by omega) (by omega) (by omega) (by omega)
  have r0 : r = [] := dvd_short rg g0 rr (dvd_comb F.dp F.dq he) (by omega)
  have e1 : ∀ x, ev s x * ev u x + ev t x * ev v x = 0 := fun x => by
    have d := mul_short (n := 0) (D := trim (addL (mulL s u) (mulL t v))) (p := gcd p q) (f := []) (row_trim _) rg g0 gp fun x => by
      have := he x
      rw [r0, hu, hv, ev_nil] at this
      rw [ev_trim, ev_add, ev_mul, ev_mul, ev_nil]
      grind
    have := (row_eq_nil_iff (row_trim _)).mp d x
    rw [ev_trim, ev_add, ev_mul, ev_mul] at this
    exact this
  have e2 : ∀ x, ev (shT p q).2.1 x * ev u x + ev (shT p q).2.2 x * ev v x = 1 := fun x => by
    have d := mul_short (n := 0) (D := trim (addL (addL (mulL (shT p q).2.1 u) (mulL (shT p q).2.2 v)) [-1])) (p := gcd p q) (f := []) (row_trim _) rg g0 gp fun x => by
      have := F.eq x
      rw [hu, hv] at this
      have e : ev (shT p q).1 x = ev (gcd p q) x := rfl
      rw [e] at this
      rw [ev_trim, ev_add, ev_add, ev_mul, ev_mul, ev_cons, ev_nil]
      grind
    have := (row_eq_nil_iff (row_trim _)).mp d x
    rw [ev_trim, ev_add, ev_add, ev_mul, ev_mul, ev_cons, ev_nil] at this
    grind
  generalize (shT p q).2.1 = sg at e2
  generalize (shT p q).2.2 = ta at e2
  have ea : ∀ x, ev (trim (addL (mulL ta s) (sclL (-1) (mulL sg t)))) x = ev ta x * ev s x - ev sg x * ev t x := fun x => by
    rw [ev_trim, ev_add, ev_scl, ev_mul, ev_mul]; grind
  have es : ∀ x, ev s x = ev (trim (addL (mulL ta s) (sclL (-1) (mulL sg t)))) x * ev v x := fun x => by
    have h1 := e1 x
    have h2 := e2 x
    rw [ea]
    grind
  have et : ∀ x, ev t x = ev (trim (addL (mulL ta s) (sclL (-1) (mulL sg t)))) x * -ev u x := fun x => by
    have h1 := e1 x
    have h2 := e2 x
    rw [ea]
    grind
  have s0 : s ≠ [] := fun z => by
    have d := mul_short (n := 0) (f := []) (row_trim (addL (mulL ta s) (sclL (-1) (mulL sg t)))) rv v0 vp fun x => by rw [← es, z]
    rcases hst with h | h
    · exact h z
    · exact h (row_zero rt fun x => by rw [et, d, ev_nil, Rat.zero_mul])
  obtain ⟨c, c0, hc⟩ := mul_const (row_trim _) rv rs v0 s0 es ls
  rw [hc] at es et
  have hz : zB m (v.length + (p.length + 1 - (gcd p q).length) - 1) ≤ zB m (2 * L) := zB_mono (by omega)
  have es' : ∀ x, ev s x = ev v x * c := fun x => by rw [es, ev_cons, ev_nil]; grind
  refine ⟨(led_sr hC c0 rv v0 rs (scl_row (show (-1 : Rat) ≠ 0 by decide) rt) cs ct.neg es' fun x => ?_).up hz, (led_sr hC c0 rv v0 rs rs cs cs es' es').up hz⟩
  rw [ev_scl, et, ev_cons, ev_nil]
  grind
/-! the steps of Euclid, each row by a number of its own -/
structure Eu (p q ra sa ta rb sb tb : List Rat) : Prop where
  p0 : p ≠ []
  rp : IsRow p
  rq : IsRow q
  ra0 : ra ≠ []
  rra : IsRow ra
  rsa : IsRow sa
  rta : IsRow ta
  rrb : IsRow rb
  rsb : IsRow sb
  rtb : IsRow tb
  ea : ∀ x, ev sa x * ev p x + ev ta x * ev q x = ev ra x
  eb : ∀ x, ev sb x * ev p x + ev tb x * ev q x = ev rb x
  det : ∃ d : Rat, d ≠ 0 ∧ ∀ x, ev sa x * ev tb x - ev sb x * ev ta x = d
  lt : tb.length + ra.length = p.length + 1
  ls : sb.length ≤ q.length + 1 - ra.length
  lsa : sa.length ≤ q.length + 1 - rb.length
  tt : ta.length < tb.length ∨ (ta.length ≤ tb.length ∧ rb.length < ra.length)
  le : rb.length ≤ ra.length
  lp : ra.length ≤ p.length
theorem Eu.start {p q q' : List Rat} {c : Rat} (rp : IsRow p) (rq : IsRow q) (rq' : IsRow q') (p0 : p ≠ []) (hl : q.length ≤ p.length) (hc : c ≠ 0) (e : ∀ x, ev q' x = ev q x * c) : Eu p q p [1] [] q' [] [c] := by
  have l := row_len_scl hc rq rq' e
  exact ⟨p0, rp, rq, p0, rp, row_one1, row_nil, rq', row_nil, row_snoc [] hc, fun x => by rw [ev_cons, ev_nil]; grind, fun x => by rw [ev_cons, ev_nil, e]; grind, ⟨c, hc, fun x => by rw [ev_cons, ev_cons, ev_nil]; grind⟩,
    by show 1 + _ = _; omega, Nat.zero_le _, by show 1 ≤ _; omega, .inl (by show 0 < 1; omega), by omega, Nat.le_refl _⟩
theorem Eu.step {p q ra sa ta rb sb tb rc sc tc w l : List Rat} {c : Rat} (h : Eu p q ra sa ta rb sb tb) (b0 : rb ≠ []) (dv : Dv ra rb w l) (hc : c ≠ 0) (rrc : IsRow rc) (rsc : IsRow sc) (rtc : IsRow tc)
    (er : ∀ x, ev rc x = (ev ra x - ev w x * ev rb x) * c) (es : ∀ x, ev sc x = (ev sa x - ev w x * ev sb x) * c) (et : ∀ x, ev tc x = (ev ta x - ev w x * ev tb x) * c) : Eu p q rb sb tb rc sc tc ∧ rc.length < rb.length := by
  have bp := List.length_pos_iff.mpr b0
  have ll := dv.lt
  have hle := h.le
  have hlp := h.lp
  have hlt := h.lt
  have hls := h.ls
  have hlsa := h.lsa
  have w0 : w ≠ [] := fun z => by
    have : ra = l := row_ext h.rra dv.rl fun x => by rw [dv.eq, z, ev_nil]; grind
    rw [this] at hle
    omega
  have wp := List.length_pos_iff.mpr w0
  have wl : w.length + rb.length = ra.length + 1 := by
    have h1 := mul_row_len dv.rw_ h.rrb w0 b0
    have h2 : trim (mulL w rb) = trim (addL ra (sclL (-1) l)) := trim_ext _ _ fun x => by
      have := dv.eq x
      rw [ev_mul, ev_add, ev_scl]
      grind
    rw [h2, add_row_len h.rra (by rw [sclL_len]; omega)] at h1
    omega
  have lc : rc.length < rb.length := by
    have : rc.length = l.length := row_len_scl hc dv.rl rrc fun x => by rw [er, dv.eq]; grind
    omega
  have t0 : tb ≠ [] := fun z => by rw [z] at hlt; have : 0 + ra.length = p.length + 1 := hlt; omega
  have tp := List.length_pos_iff.mpr t0
  have wt := mul_row_len dv.rw_ h.rtb w0 t0
  have tl : ta.length < (trim (mulL w tb)).length := by
    rcases h.tt with h1 | ⟨h1, h2⟩ <;> omega
  have ltc : tc.length = (trim (mulL w tb)).length := by
    have h1 := add_row_len (row_trim (mulL w tb)) (b := sclL (-1) ta) (by rw [sclL_len]; exact tl)
    have h2 : tc.length = (trim (addL (trim (mulL w tb)) (sclL (-1) ta))).length := row_len_scl (c := -c) (fun z => hc (by grind)) (row_trim _) rtc fun x => by
      rw [et, ev_trim, ev_add, ev_trim, ev_mul, ev_scl]
      grind
    rw [h2, h1]
  have lsc : sc.length ≤ q.length + 1 - rb.length := by
    have e : sc = trim (sclL c (addL sa (sclL (-1) (trim (mulL w sb))))) := row_ext rsc (row_trim _) fun x => by
      rw [es, ev_trim, ev_scl, ev_add, ev_scl, ev_trim, ev_mul]
      grind
    rw [e]
    refine Nat.le_trans (trim_len _) ?_
    rw [sclL_len, addL_len, sclL_len]
    rcases Classical.em (sb = []) with z | z
    · rw [z, mulR_nil]
      exact Nat.max_le.mpr ⟨hlsa, Nat.zero_le _⟩
    · have h1 := mul_row_len dv.rw_ h.rsb w0 z
      have h2 := List.length_pos_iff.mpr z
      omega
  obtain ⟨d, d0, hd⟩ := h.det
  refine ⟨⟨h.p0, h.rp, h.rq, b0, h.rrb, h.rsb, h.rtb, rrc, rsc, rtc, h.eb, fun x => ?_, ⟨-(d * c), fun z => rat_mul_ne d0 hc (by grind), fun x => ?_⟩, by omega, lsc, by omega, .inr ⟨by omega, lc⟩, by omega, by omega⟩, lc⟩
  · have h1 := h.ea x
    have h2 := h.eb x
    rw [er, es, et]
    grind
  · have h1 := hd x
    rw [es, et]
    grind
/-- a row of Euclid's and what it comes of: small whole numbers in the same ratio -/
theorem Eu.sz {m L : Nat} {p q ra sa ta rb sb tb : List Rat} (h : Eu p q ra sa ta rb sb tb) (sp : Sr m p) (sq : Sr m q) (lp : p.length ≤ L) (lq : q.length ≤ L) (hL : L ≤ 31) (hlt : rb.length < ra.length) :
    ∃ (C : Nat) (c : Rat) (r s t : List Rat), C < 2 ^ zB m (2 * L) ∧ c ≠ 0 ∧ IsRow r ∧ IsRow s ∧ IsRow t ∧ Ce 1 C r ∧ Ce 1 C s ∧ Ce 1 C t ∧ (∀ x, ev r x = ev rb x * c) ∧ (∀ x, ev s x = ev sb x * c) ∧ (∀ x, ev t x = ev tb x * c) := by
  have ap := List.length_pos_iff.mpr h.ra0
  have pp := List.length_pos_iff.mpr h.p0
  have hlp := h.lp
  have hlt' := h.lt
  obtain ⟨C, s, t, r, hC, hst, rs, rt, rr, ls, lt, lr, cs, ct, cr, he⟩ := small (ls := q.length + 1 - ra.length) (lt := tb.length) (k := ra.length - 1) (M := q.length + 1 - ra.length + tb.length - 1) sp sq (by omega) (by omega) (by omega) (by omega)
  have f0 : trim (addL (mulL t sb) (sclL (-1) (mulL s tb))) = [] := by
    refine mul_short (n := 0) (row_trim _) h.rp h.p0 (f := addL (trim (mulL t rb)) (sclL (-1) (trim (mulL tb r)))) ?_ fun x => ?_
    · rw [addL_len, sclL_len]
      have h1 := mulR_len t rb
      have h2 := mulR_len tb r
      omega
    · have h1 := he x
      have h2 := h.eb x
      rw [ev_trim, ev_add, ev_scl, ev_mul, ev_mul, ev_add, ev_scl, ev_trim, ev_trim, ev_mul, ev_mul]
      grind
  have e1 : ∀ x, ev t x * ev sb x = ev s x * ev tb x := fun x => by
    have := (row_eq_nil_iff (row_trim _)).mp f0 x
    rw [ev_trim, ev_add, ev_scl, ev_mul, ev_mul] at this
    grind
  obtain ⟨d, d0, hd⟩ := h.det
  generalize hal : trim (sclL (1 / d) (addL (mulL t sa) (sclL (-1) (mulL s ta)))) = al
  have ral : IsRow al := by rw [← hal]; exact row_trim _
  have ev_al : ∀ x, ev al x = (ev t x * ev sa x - ev s x * ev ta x) * (1 / d) := fun x => by rw [← hal, ev_trim, ev_scl, ev_add, ev_scl, ev_mul, ev_mul]; grind
  have dd : d * (1 / d) = 1 := by grind
  have es : ∀ x, ev s x = ev al x * ev sb x := fun x => by
    have h1 := e1 x
    have h2 := hd x
    rw [ev_al]
    have h3 : (ev t x * ev sa x - ev s x * ev ta x) * ev sb x = ev s x * d := by rw [← h2]; grind
    grind
  have et : ∀ x, ev t x = ev al x * ev tb x := fun x => by
    have h1 := e1 x
    have h2 := hd x
    rw [ev_al]
    have h3 : (ev t x * ev sa x - ev s x * ev ta x) * ev tb x = ev t x * d := by rw [← h2]; grind
    grind
  have t0 : tb ≠ [] := fun z => by rw [z] at hlt'; have : 0 + ra.length = p.length + 1 := hlt'; omega
  have tne : t ≠ [] := fun z => by
    have d := mul_short (n := 0) (f := []) ral h.rtb t0 (List.length_pos_iff.mpr t0) fun x => by rw [← et, z]
    rcases hst with h | h
    · exact h (row_zero rs fun x => by rw [es, d, ev_nil, Rat.zero_mul])
    · exact h z
  obtain ⟨c, c0, hc⟩ := mul_const ral h.rtb rt t0 tne et lt
  have hz : zB m (q.length + 1 - ra.length + tb.length - 1) ≤ zB m (2 * L) := zB_mono (by omega)
  have ec : ∀ x, ev al x = c := fun x => by rw [hc, ev_cons, ev_nil]; grind
  refine ⟨C, c, r, s, t, Nat.lt_of_lt_of_le hC (Nat.pow_le_pow_right (by decide) hz), c0, rr, rs, rt, cr, cs, ct, fun x => ?_, fun x => by rw [es, ec]; grind, fun x => by rw [et, ec]; grind⟩
  have h1 := he x
  have h2 := h.eb x
  rw [es, et, ec] at h1
  grind
theorem Eu.fin {p q ra sa ta rb sb tb : List Rat} (h : Eu p q ra sa ta rb sb tb) (b0 : rb = []) : ledR ra = gcd p q ∧ ledR ra = gcd q p := by
  obtain ⟨d, d0, hd⟩ := h.det
  have dd : d * (1 / d) = 1 := by grind
  have la := lead_ne h.rra h.ra0
  have ll : lead ra * (1 / lead ra) = 1 := by grind
  obtain ⟨L, hl, _⟩ := ledR_eq h.rra h.ra0
  have d1 : Dvd (ledR ra) p := ⟨sclL (1 / d) (sclL (lead ra) tb), fun x => by
    have h1 := hd x
    have h2 := h.ea x
    have h3 := h.eb x
    rw [b0, ev_nil] at h3
    rw [ev_scl, ev_scl, ev_ledR, ← h2]
    have h4 : ev tb x * (ev sa x * ev p x + ev ta x * ev q x) = d * ev p x := by rw [← h1]; grind
    grind⟩
  have d2 : Dvd (ledR ra) q := ⟨sclL (1 / d) (sclL (lead ra) (sclL (-1) sb)), fun x => by
    have h1 := hd x
    have h2 := h.ea x
    have h3 := h.eb x
    rw [b0, ev_nil] at h3
    rw [ev_scl, ev_scl, ev_scl, ev_ledR, ← h2]
    have h4 : -ev sb x * (ev sa x * ev p x + ev ta x * ev q x) = d * ev q x := by rw [← h1]; grind
    grind⟩
  have e1 : ∀ x, ev (sclL (1 / lead ra) sa) x * ev p x + ev (sclL (1 / lead ra) ta) x * ev q x = ev (ledR ra) x := fun x => by
    have h2 := h.ea x
    rw [ev_scl, ev_scl, ev_ledR, ← h2]
    grind
  exact ⟨gcd_of h.rp h.rq (.inl h.p0) ⟨L, hl⟩ d1 d2 e1, gcd_of (s := sclL (1 / lead ra) ta) (t := sclL (1 / lead ra) sa) h.rq h.rp (.inr h.p0) ⟨L, hl⟩ d2 d1 fun x => by rw [← e1 x]; grind⟩
end DL

set_option linter.all false
set_option autoImplicit false
namespace DL
theorem sr_led {Z : Nat} {l : List Rat} (h : Sr Z l) (hr : IsRow l) : Sr Z (ledR l) := by
  rcases Classical.em (l = []) with rfl | l0
  · exact h
  · obtain ⟨E, B, e0, e1, e2, e3⟩ := h
    have hE : (E : Rat) ≠ 0 := fun z => by
      have := Rat.natCast_inj.mp (z.trans (show (0 : Rat) = ((0 : Nat) : Rat) from rfl))
      omega
    have ce : Ce 1 B (sclL (E : Rat) l) := fun a ha => by
      obtain ⟨z, hz, rfl⟩ := List.mem_map.mp ha
      have : z * (E : Rat) * ((1 : Nat) : Rat) = z * E := Rat.mul_one _
      rw [this]
      exact e3 z hz
    exact led_sr e2 hE hr l0 (scl_row hE hr) (scl_row hE hr) ce ce (fun x => ev_scl _ _ _) fun x => ev_scl _ _ _
/-- where the loop of greatest stands -/
def Gs (p q one other : List Rat) : Prop := (one = p ∧ other = q ∧ p.length < q.length) ∨ (p = [] ∧ q = [] ∧ one = [] ∧ other = []) ∨ (∃ sa ta sb tb, Eu p q one sa ta other sb tb) ∨ ∃ sa ta sb tb, Eu q p one sa ta other sb tb
theorem Gs.start {p q : List Rat} (hp : IsRow p) (hq : IsRow q) : Gs p q p q := by
  rcases Nat.lt_or_ge p.length q.length with h | h
  · exact .inl ⟨rfl, rfl, h⟩
  · rcases Classical.em (p = []) with p0 | p0
    · have q0 : q = [] := by rw [p0] at h; exact List.length_eq_zero_iff.mp (Nat.le_zero.mp h)
      exact .inr (.inl ⟨p0, q0, p0, q0⟩)
    · exact .inr (.inr (.inl ⟨_, _, _, _, Eu.start hp hq hq p0 h (show (1 : Rat) ≠ 0 by decide) fun x => (Rat.mul_one _).symm⟩))
theorem Gs.rows {p q one other : List Rat} (hp : IsRow p) (hq : IsRow q) (h : Gs p q one other) : IsRow one ∧ IsRow other ∧ one.length ≤ max p.length q.length ∧ other.length ≤ max p.length q.length := by
  rcases h with ⟨rfl, rfl, _⟩ | ⟨rfl, rfl, rfl, rfl⟩ | ⟨sa, ta, sb, tb, h⟩ | ⟨sa, ta, sb, tb, h⟩
  · exact ⟨hp, hq, by omega, by omega⟩
  · exact ⟨row_nil, row_nil, Nat.zero_le _, Nat.zero_le _⟩
  · have := h.lp
    have := h.le
    exact ⟨h.rra, h.rrb, by omega, by omega⟩
  · have := h.lp
    have := h.le
    exact ⟨h.rra, h.rrb, by omega, by omega⟩
theorem Gs.fin {p q one : List Rat} (hp : IsRow p) (hq : IsRow q) (h : Gs p q one []) : ledR one = gcd p q := by
  rcases h with ⟨_, rfl, h⟩ | ⟨rfl, rfl, rfl, _⟩ | ⟨sa, ta, sb, tb, h⟩ | ⟨sa, ta, sb, tb, h⟩
  · exact absurd h (Nat.not_lt_zero _)
  · exact ((shT_facts row_nil row_nil).non rfl rfl).symm
  · exact (h.fin rfl).1
  · exact (h.fin rfl).2
theorem eu_go {p q ra sa ta rb sb tb : List Rat} (h : Eu p q ra sa ta rb sb tb) (b0 : rb ≠ []) {m L : Nat} (sp : Sr m p) (sq : Sr m q) (lp : p.length ≤ L) (lq : q.length ≤ L) (hL : L ≤ 31) (hm : 0 < m) :
    ∃ sc tc, Eu p q rb sb tb (ledR (rem ra rb)) sc tc ∧ (ledR (rem ra rb)).length < rb.length ∧ Sr (zB m (2 * L)) (ledR (rem ra rb)) := by
  have dv := dv_of h.rra h.rrb b0
  have hex : ∃ c : Rat, c ≠ 0 ∧ ∀ x, ev (ledR (rem ra rb)) x = ev (rem ra rb) x * c := by
    rcases Classical.em (rem ra rb = []) with z | z
    · rw [z]
      exact ⟨1, by decide, fun x => by rw [ledR_nil, Rat.mul_one]⟩
    · exact ⟨1 / lead (rem ra rb), inv_ne (lead_ne dv.rl z), fun x => ev_ledR _ x⟩
  obtain ⟨c, c0, hc⟩ := hex
  have cf : ∀ a b : List Rat, ∃ d : List Rat, IsRow d ∧ ∀ x, ev d x = (ev a x - ev (quo ra rb) x * ev b x) * c := fun a b => ⟨trim (sclL c (addL a (sclL (-1) (mulL (quo ra rb) b)))), row_trim _, fun x => by
    rw [ev_trim, ev_scl, ev_add, ev_scl, ev_mul]; grind⟩
  obtain ⟨sc, rsc, es⟩ := cf sa sb
  obtain ⟨tc, rtc, et⟩ := cf ta tb
  obtain ⟨h2, lt⟩ := h.step b0 dv c0 (ledR_row _) rsc rtc (fun x => by rw [hc, dv.eq]; grind) es et
  refine ⟨sc, tc, h2, lt, ?_⟩
  obtain ⟨C, k, r, s, t, hC, k0, rr, _, _, cr, _, _, er, _, _⟩ := h2.sz sp sq lp lq hL lt
  rcases Classical.em (ledR (rem ra rb) = []) with z | z
  · rw [z]
    exact .nil _ (by unfold zB; exact Nat.mul_pos (by omega) (Nat.succ_pos _))
  · have h3 := led_sr hC k0 (ledR_row (rem ra rb)) z rr rr cr cr er er
    have e : trim (sclL (1 / lead (ledR (rem ra rb))) (ledR (rem ra rb))) = ledR (rem ra rb) := by
      have z2 : rem ra rb ≠ [] := fun z3 => z (by rw [z3, ledR_nil])
      obtain ⟨R, hR, _⟩ := ledR_eq dv.rl z2
      refine row_ext (row_trim _) (ledR_row _) fun x => ?_
      have : lead (ledR (rem ra rb)) = 1 := by rw [hR, lead_snoc]
      rw [ev_trim, ev_scl, this]
      grind
    rw [e] at h3
    exact h3
theorem Gs.step {m L : Nat} {p q one other : List Rat} (hp : IsRow p) (hq : IsRow q) (sp : Sr m p) (sq : Sr m q) (lp : p.length ≤ L) (lq : q.length ≤ L) (hL : L ≤ 31) (hm : 0 < m) (o0 : other ≠ []) (h : Gs p q one other) :
    Gs p q other (ledR (rem one other)) ∧ (ledR (rem one other)).length < other.length ∧ Sr (zB m (2 * L)) (ledR (rem one other)) := by
  have mz : m ≤ zB m (2 * L) := by
    unfold zB
    have : m * 1 ≤ (m + 7) * (2 * L + 1) := Nat.mul_le_mul (by omega) (by omega)
    omega
  rcases h with ⟨rfl, rfl, h⟩ | ⟨rfl, rfl, rfl, rfl⟩ | ⟨sa, ta, sb, tb, h⟩ | ⟨sa, ta, sb, tb, h⟩
  · have e : rem one other = one := by
      have dv : Dv one other [] one := ⟨row_nil, hp, h, fun x => by rw [ev_nil]; grind⟩
      exact (dv.eqs hp hq).2.symm
    rw [e]
    refine ⟨.inr (.inr (.inr ?_)), by rw [ledR_len hp]; exact h, (sr_led sp hp).up mz⟩
    rcases Classical.em (one = []) with z | z
    · exact ⟨_, _, _, _, Eu.start hq hp (ledR_row one) o0 (Nat.le_of_lt h) (show (1 : Rat) ≠ 0 by decide) fun x => by rw [z, ledR_nil, Rat.mul_one]⟩
    · exact ⟨_, _, _, _, Eu.start hq hp (ledR_row one) o0 (Nat.le_of_lt h) (inv_ne (lead_ne hp z)) fun x => ev_ledR one x⟩
  · exact absurd rfl o0
  · obtain ⟨sc, tc, h2, h3, h4⟩ := eu_go h o0 sp sq lp lq hL hm
    exact ⟨.inr (.inr (.inl ⟨_, _, _, _, h2⟩)), h3, h4⟩
  · obtain ⟨sc, tc, h2, h3, h4⟩ := eu_go h o0 sq sp lq lp hL hm
    exact ⟨.inr (.inr (.inr ⟨_, _, _, _, h2⟩)), h3, h4⟩
theorem Gs.run {m L : Nat} {p q : List Rat} (hp : IsRow p) (hq : IsRow q) (sp : Sr m p) (sq : Sr m q) (lp : p.length ≤ L) (lq : q.length ≤ L) (hL : L ≤ 31) (hm : 0 < m) : ∀ (n : Nat) (one other : List Rat), other.length < n → Gs p q one other → Sr (zB m (2 * L)) one → Sr (zB m (2 * L)) other → ∃ l, Gs p q l [] ∧ Sr (zB m (2 * L)) l
  | 0, one, other, h, _, _, _ => absurd h (Nat.not_lt_zero _)
  | n + 1, one, other, h, hg, s1, s2 => by
    rcases Classical.em (other = []) with z | z
    · rw [z] at hg
      exact ⟨one, hg, s1⟩
    · obtain ⟨h1, h2, h3⟩ := hg.step hp hq sp sq lp lq hL hm z
      exact Gs.run hp hq sp sq lp lq hL hm n other _ (by omega) h1 s2 h3
theorem le_zB (m L : Nat) : m + 7 ≤ zB m (2 * L) := by
  unfold zB
  have : (m + 7) * 1 ≤ (m + 7) * (2 * L + 1) := Nat.mul_le_mul_left _ (by omega)
  omega
theorem gcd_sz {m L : Nat} {p q : List Rat} (hp : IsRow p) (hq : IsRow q) (sp : Sr m p) (sq : Sr m q) (lp : p.length ≤ L) (lq : q.length ≤ L) (hL : L ≤ 31) (hm : 0 < m) : Sr (zB m (2 * L)) (gcd p q) := by
  have mz := le_zB m L
  obtain ⟨l, h, s⟩ := Gs.run hp hq sp sq lp lq hL hm (q.length + 1) p q (Nat.lt_succ_self _) (.start hp hq) (sp.up (by omega)) (sq.up (by omega))
  rw [← h.fin hp hq]
  exact sr_led s (h.rows hp hq).1
theorem quo_dvd {p g : List Rat} (hp : IsRow p) (hg : IsRow g) (g0 : g ≠ []) (h : Dvd g p) : IsRow (quo p g) ∧ ∀ x, ev p x = ev (quo p g) x * ev g x := by
  have dv := dv_of hp hg g0
  have := h.rem hp hg g0
  exact ⟨dv.rw_, fun x => by rw [dv.eq, this, ev_nil]; grind⟩
/-- two rows in lowest terms, the second one led -/
noncomputable def lowT (p q : List Rat) : List Rat × List Rat := (trim (sclL (1 / lead (quo q (gcd p q))) (quo p (gcd p q))), ledR (quo q (gcd p q)))
structure LowF (p q : List Rat) (t : List Rat × List Rat) : Prop where
  r1 : IsRow t.1
  r2 : IsRow t.2
  led : ∃ l, t.2 = l ++ [1]
  eq : ∀ x, ev p x * ev t.2 x = ev q x * ev t.1 x
  one : gcd t.1 t.2 = [1]
  l1 : t.1.length ≤ p.length
  l2 : t.2.length ≤ q.length
  d1 : ∃ g : List Rat, IsRow g ∧ g ≠ [] ∧ (∀ x, ev p x = ev t.1 x * ev g x) ∧ ∀ x, ev q x = ev t.2 x * ev g x
theorem gcd_one {p q s t : List Rat} (hp : IsRow p) (hq : IsRow q) (h : ∀ x, ev s x * ev p x + ev t x * ev q x = 1) : gcd p q = [1] := by
  have hne : p ≠ [] ∨ q ≠ [] := by
    rcases Classical.em (p = []) with z | z
    · refine .inr fun z2 => ?_
      have := h 0
      rw [z, z2, ev_nil, Rat.mul_zero, Rat.mul_zero] at this
      exact absurd (show (0 : Rat) = 1 by grind) (by decide)
    · exact .inl z
  exact (gcd_of (g := [1]) hp hq hne ⟨[], rfl⟩ ⟨p, fun x => by rw [ev_cons, ev_nil]; grind⟩ ⟨q, fun x => by rw [ev_cons, ev_nil]; grind⟩ fun x => by rw [h, ev_cons, ev_nil]; grind).symm
theorem bez_one {p q : List Rat} (hp : IsRow p) (hq : IsRow q) (h : gcd p q = [1]) : ∃ s t : List Rat, IsRow s ∧ IsRow t ∧ ∀ x, ev s x * ev p x + ev t x * ev q x = 1 := by
  have F := shT_facts hp hq
  refine ⟨_, _, F.r1, F.r2, fun x => ?_⟩
  have := F.eq x
  have e : (shT p q).1 = [1] := h
  rw [e, ev_cons, ev_nil] at this
  rw [this]
  grind
theorem low_facts {p q : List Rat} (hp : IsRow p) (hq : IsRow q) (q0 : q ≠ []) : LowF p q (lowT p q) := by
  have F := shT_facts hp hq
  have rg := gcd_row hp hq
  have g0 := gcd_ne hp hq (.inr q0)
  have gp := List.length_pos_iff.mpr g0
  obtain ⟨ru, hu⟩ := quo_dvd hp rg g0 F.dp
  obtain ⟨rv, hv⟩ := quo_dvd hq rg g0 F.dq
  obtain ⟨v0, _, lv⟩ := cof_len hq rg rv q0 hv
  have lu : (quo p (gcd p q)).length ≤ p.length := quo_len hp rg g0
  have lvn := lead_ne rv v0
  obtain ⟨V, hV, lV⟩ := ledR_eq rv v0
  have e2 : ∀ x, ev (shT p q).2.1 x * ev (quo p (gcd p q)) x + ev (shT p q).2.2 x * ev (quo q (gcd p q)) x = 1 := fun x => by
    have d := mul_short (n := 0) (D := trim (addL (addL (mulL (shT p q).2.1 (quo p (gcd p q))) (mulL (shT p q).2.2 (quo q (gcd p q)))) [-1])) (p := gcd p q) (f := []) (row_trim _) rg g0 gp fun x => by
      have := F.eq x
      rw [hu, hv] at this
      have e : ev (shT p q).1 x = ev (gcd p q) x := rfl
      rw [e] at this
      rw [ev_trim, ev_add, ev_add, ev_mul, ev_mul, ev_cons, ev_nil]
      grind
    have := (row_eq_nil_iff (row_trim _)).mp d x
    rw [ev_trim, ev_add, ev_add, ev_mul, ev_mul, ev_cons, ev_nil] at this
    grind
  unfold lowT
  generalize (shT p q).2.1 = sg at e2
  generalize (shT p q).2.2 = ta at e2
  have ll : lead (quo q (gcd p q)) * (1 / lead (quo q (gcd p q))) = 1 := by grind
  have e1 : ∀ x, ev (trim (sclL (1 / lead (quo q (gcd p q))) (quo p (gcd p q)))) x = ev (quo p (gcd p q)) x * (1 / lead (quo q (gcd p q))) := fun x => by rw [ev_trim, ev_scl]
  refine ⟨row_trim _, ledR_row _, ⟨V, hV⟩, fun x => ?_, ?_, ?_, ?_, sclL (lead (quo q (gcd p q))) (gcd p q), scl_row lvn rg, ?_, fun x => ?_, fun x => ?_⟩
  · show ev p x * ev (ledR _) x = ev q x * ev (trim _) x
    rw [e1, ev_ledR, hu, hv]
    grind
  · refine gcd_one (s := sclL (lead (quo q (gcd p q))) sg) (t := sclL (lead (quo q (gcd p q))) ta) (row_trim _) (ledR_row _) fun x => ?_
    have := e2 x
    rw [ev_scl, ev_scl, e1, ev_ledR]
    grind
  · have := trim_len (sclL (1 / lead (quo q (gcd p q))) (quo p (gcd p q)))
    rw [sclL_len] at this
    exact Nat.le_trans this lu
  · show (ledR _).length ≤ _
    rw [ledR_len rv]
    omega
  · intro z; exact g0 (List.map_eq_nil_iff.mp z)
  · show _ = ev (trim _) x * _
    rw [e1, ev_scl, hu]
    grind
  · show _ = ev (ledR _) x * _
    rw [ev_ledR, ev_scl, hv]
    grind
theorem lowT_sz {m L : Nat} {p q : List Rat} (hp : IsRow p) (hq : IsRow q) (q0 : q ≠ []) (lp : p.length ≤ L) (lq : q.length ≤ L) (hL : L ≤ 31) (sp : Sr m p) (sq : Sr m q) : Sr (zB m (2 * L)) (lowT p q).1 ∧ Sr (zB m (2 * L)) (lowT p q).2 := by
  have F := shT_facts hp hq
  have rg := gcd_row hp hq
  have g0 := gcd_ne hp hq (.inr q0)
  obtain ⟨ru, hu⟩ := quo_dvd hp rg g0 F.dp
  obtain ⟨rv, hv⟩ := quo_dvd hq rg g0 F.dq
  exact low_sz hp hq q0 lp lq hL sp sq ru rv hu hv
end DL

set_option linter.all false
set_option autoImplicit false
set_option maxRecDepth 10000
set_option maxHeartbeats 400000
namespace DL
open PySem PySem.Spec L2
local macro_rules | `(tactic| walk_at "dl") => `(tactic| simp -implicitDefEqProofs only [wSeq, wNext, wSet, wSetL, wAsg, wPar, parD, wRet, wExpr, wApp, wSetIx, wIf, wFrz, wRaise, wBreak, wCont, eVar, eC, eOp, tBl, dI, dB, dAdd, dSub, dMul, dFdiv, dMod, dPow, eNeg, dLt, dLe, dGt, dGe, dEq, dNe, dIs, dIsNot, eAnd, eOr, eNot, tAndD, tOrD, tNotD,
  aNil, aCons, eTup, eLst, lLst, eL, dIx, eSl, dSl, oNo, oSome, eCB, cLen, cAbs, cMax, cMin, cTuple, cList, cInt, eIsi, isiD, dName, dTupT, dCons, dNil, eCell, cellP, eIxO, eLenO, eCall, startΓ, startS, List.getElem?_cons_zero, List.getElem?_cons_succ, List.set, List.map, List.length, List.replicate, List.append, List.cons_append, List.nil_append, Nat.sub_self, Nat.reduceAdd, Nat.reduceSub, true_and, ixD_0, ixD_1, ixD_2, ixD_3, ixD_4, ixD_5, ixD_6, ixD_7, ixD_8, ixD_9, ixD_10, ixD_11, ixD_12, ixD_13, ixD_14, ixD_15, ixD_16, ixD_17, ixD_18, ixD_19])
/-! ### led, greatest, lowest -/
def gB (m L : Nat) : Nat := (2 * L + 10) * (zB m (2 * L) + 8)
theorem gB_eq (m L : Nat) : gB m L = 2 * (L * zB m (2 * L)) + 16 * L + 10 * zB m (2 * L) + 80 := by unfold gB; grind
theorem gB_div {m L a b d : Nat} (ha : a ≤ zB m (2 * L)) (hb : b ≤ zB m (2 * L)) (hd : d ≤ L + 1) : 2 * (a + d * (b + 1)) + 4 * b + 60 ≤ gB m L ∧ 2 * (a + d * (b + 1) + b) + 20 ≤ gB m L := by
  have h1 : d * (b + 1) ≤ (L + 1) * (zB m (2 * L) + 1) := Nat.mul_le_mul hd (by omega)
  have h2 : (L + 1) * (zB m (2 * L) + 1) = L * zB m (2 * L) + L + zB m (2 * L) + 1 := by grind
  rw [gB_eq]
  omega
def R_led (py : Prop) : List D → Res → Prop := fun ds r => ∃ (p : List Rat) (m : Nat), ds = [rowD p] ∧ IsRow p ∧ Az m p ∧ Lim py (2 * m + 2) ∧ p.length ≤ 1000 ∧ r = .ok (rowD (ledR p))
def R_greatest (py : Prop) : List D → Res → Prop := fun ds r => ∃ (p q : List Rat) (m L : Nat), ds = [rowD p, rowD q] ∧ IsRow p ∧ IsRow q ∧ p.length ≤ L ∧ q.length ≤ L ∧ L ≤ 31 ∧ Sr m p ∧ Sr m q ∧ Lim py (gB m L) ∧ r = .ok (rowD (gcd p q))
def R_is_apart (py : Prop) : List D → Res → Prop := fun ds r => ∃ (p q : List Rat) (m L : Nat), ds = [rowD p, rowD q] ∧ IsRow p ∧ IsRow q ∧ p.length ≤ L ∧ q.length ≤ L ∧ L ≤ 31 ∧ Sr m p ∧ Sr m q ∧ Lim py (gB m L) ∧ r = .ok (.bool (decide (gcd p q = [1])))
def R__law_led (py : Prop) : List D → Res → Prop := R_led py
def R__law_shared (py : Prop) : List D → Res → Prop := R_greatest py
noncomputable def loD (p q : List Rat) : D := .tuple [rowD (lowT p q).1, rowD (lowT p q).2]
def R_lowest (py : Prop) : List D → Res → Prop := fun ds r => ∃ (p q : List Rat) (m L : Nat), ds = [rowD p, rowD q] ∧ IsRow p ∧ IsRow q ∧ q ≠ [] ∧ p.length ≤ L ∧ q.length ≤ L ∧ L ≤ 31 ∧ Sr m p ∧ Sr m q ∧ Lim py (gB m L) ∧ r = .ok (loD p q)
def R_quotient (py : Prop) : List D → Res → Prop := fun ds r => ∃ d e, ds = [d, e] ∧ (((isRow d && isRow e) = false ∧ r = .err 1) ∨ (isRow d = true ∧ isRow e = true ∧ e = .tuple [] ∧ r = .err 0) ∨ ∃ (p q : List Rat) (m L : Nat), d = rowD p ∧ e = rowD q ∧ IsRow p ∧ IsRow q ∧ q ≠ [] ∧ p.length ≤ L ∧ q.length ≤ L ∧ L ≤ 31 ∧ Sr m p ∧ Sr m q ∧ Lim py (gB m L) ∧ r = .ok (loD p q))
def w_led (Ex : Nat → Prop) (py : Prop) : DS :=
  (wSeq (wIf (tBl (eOp dEq (eCB cLen (aCons (eVar 0) aNil)) (eC (.int 0))))
  (wRet (eVar 0))
  wNext)
  (wRet (eCall Ex (R_scale py) (aCons (eVar 0) (aCons (eCall Ex (R_part_of py) (aCons (eTup (aCons (eC (.int 1)) (aCons (eC (.int 1)) aNil))) (aCons (eOp dIx (eVar 0) (eNeg (eC (.int 1)))) aNil))) aNil)))))

def w_greatest (Ex : Nat → Prop) (py : Prop) : DS :=
  (wSeq (wWhile (tBl (eOp dGt (eCB cLen (aCons (eVar 1) aNil)) (eC (.int 0))))
  (wPar 0 1 (aCons (eVar 1) (aCons (eCall Ex (R_led py) (aCons (eOp dIx (eCall Ex (R_divide py) (aCons (eVar 0) (aCons (eVar 1) aNil))) (eC (.int 1))) aNil)) aNil))))
  (wRet (eCall Ex (R_led py) (aCons (eVar 0) aNil))))

def w_is_apart (Ex : Nat → Prop) (py : Prop) : DS :=
  (wRet (eOp dEq (eCall Ex (R_greatest py) (aCons (eVar 0) (aCons (eVar 1) aNil))) (eC c_ONE)))

def w_lowest (Ex : Nat → Prop) (py : Prop) : DS :=
  (wSeq (wSet 2 (eCall Ex (R_greatest py) (aCons (eVar 0) (aCons (eVar 1) aNil))))
  (wSeq (wSet 0 (eOp dIx (eCall Ex (R_divide py) (aCons (eVar 0) (aCons (eVar 2) aNil))) (eC (.int 0))))
  (wSeq (wSet 1 (eOp dIx (eCall Ex (R_divide py) (aCons (eVar 1) (aCons (eVar 2) aNil))) (eC (.int 0))))
  (wSeq (wSet 3 (eCall Ex (R_part_of py) (aCons (eTup (aCons (eC (.int 1)) (aCons (eC (.int 1)) aNil))) (aCons (eOp dIx (eVar 1) (eNeg (eC (.int 1)))) aNil))))
  (wRet (eTup (aCons (eCall Ex (R_scale py) (aCons (eVar 0) (aCons (eVar 3) aNil))) (aCons (eCall Ex (R_scale py) (aCons (eVar 1) (aCons (eVar 3) aNil))) aNil))))))))

def w_quotient (Ex : Nat → Prop) (py : Prop) : DS :=
  (wSeq (wExpr (eCall Ex (R_need_rows py) (aCons (eLst (aCons (eVar 0) (aCons (eVar 1) aNil))) aNil)))
  (wSeq (wIf (tBl (eOp dEq (eCB cLen (aCons (eVar 1) aNil)) (eC (.int 0))))
  (wRaise Ex 0)
  wNext)
  (wRet (eCall Ex (R_lowest py) (aCons (eVar 0) (aCons (eVar 1) aNil))))))
def w__law_led (Ex : Nat → Prop) (py : Prop) : DS :=
  (wSeq (wIf (tBl (eOp dEq (eCB cLen (aCons (eVar 0) aNil)) (eC (.int 0))))
  (wRet (eVar 0))
  wNext)
  (wRet (eCall Ex (R__law_scale py) (aCons (eVar 0) (aCons (eCall Ex (R__law_fraction py) (aCons (eOp dIx (eOp dIx (eVar 0) (eNeg (eC (.int 1)))) (eC (.int 1))) (aCons (eOp dIx (eOp dIx (eVar 0) (eNeg (eC (.int 1)))) (eC (.int 0))) aNil))) aNil)))))

def w__law_shared (Ex : Nat → Prop) (py : Prop) : DS :=
  (wSeq (wWhile (tBl (eOp dGt (eCB cLen (aCons (eVar 1) aNil)) (eC (.int 0))))
  (wPar 0 1 (aCons (eVar 1) (aCons (eCall Ex (R__law_led py) (aCons (eOp dIx (eCall Ex (R__law_divide py) (aCons (eVar 0) (aCons (eVar 1) aNil))) (eC (.int 1))) aNil)) aNil))))
  (wRet (eCall Ex (R__law_led py) (aCons (eVar 0) aNil))))

theorem sz_log {q : Rat} {m : Nat} (h : Sz m q) {py : Prop} (hl : m < 9000 ∨ py) : q.num.natAbs.log2 < 9000 ∨ py := by
  refine hl.imp (fun z => ?_) id
  by_cases h0 : q.num.natAbs = 0
  · rw [h0]; decide
  · rw [Nat.log2_lt h0]
    exact Nat.lt_of_lt_of_le h.1 (Nat.pow_le_pow_right (by decide) (Nat.le_of_lt z))
theorem sz_one : Sz 1 1 := ⟨by decide, by decide⟩
theorem az_last {m : Nat} {l : List Rat} {t : Rat} (h : Az m (l ++ [t])) : Sz m t := h t (List.mem_append_right _ (List.mem_singleton.mpr rfl))
theorem pure_led (py : Prop) (ds : List D) (r : Res) (h : R_led py ds r) : w_led (fun g => r = .err g) py (endsOf r) (startΓ ["row"] ds) := by
  obtain ⟨p, m, rfl, hp, az, hl, lp, rfl⟩ := h
  unfold w_led
  refine seq_go fun nx hnx => ?_
  show (match decide (((p.map frD).length : Int) = 0) with
    | true => _
    | false => nx _)
  rw [List.length_map]
  rcases snoc_cases p with rfl | ⟨l, t, rfl⟩
  · rfl
  · have t0 := snoc_row hp
    have gt := az_last az
    rw [decide_eq_false (by rw [List.length_append]; show ¬ ((l.length + 1 : Nat) : Int) = 0; omega)]
    refine hnx _ ?_
    unfold rowD
    walk_at "dl"
    rw [map_snoc]
    show ixD (l.map frD ++ [frD t]) (-1) _
    rw [ixD_last, ← map_snoc]
    refine call_ok (d := frD (1 / t)) ⟨1, t, 1, m, rfl, sz_one, gt, hl.low (by omega), by rw [if_neg t0]⟩ ?_
    refine call_ok ⟨l ++ [t], 1 / t, m, m + 1, rfl, az, sz_inv gt t0, hl.low (by omega), lp, rfl⟩ ?_
    show Res.ok (rowD (trim (sclL (1 / lead (l ++ [t])) (l ++ [t])))) = _
    rw [lead_snoc]
theorem rat_inv (q : Rat) : Rat.divInt (q.den : Int) q.num = 1 / q := by
  have := rat_part 1 q
  rw [← this]
  have e1 : (1 : Rat).num = 1 := rfl
  have e2 : (1 : Rat).den = 1 := rfl
  rw [e1, e2, Int.one_mul]
  show _ = Rat.divInt (q.den : Int) ((1 : Int) * q.num)
  rw [Int.one_mul]
theorem pure__law_led (py : Prop) (ds : List D) (r : Res) (h : R__law_led py ds r) : w__law_led (fun g => r = .err g) py (endsOf r) (startΓ ["_law_row"] ds) := by
  obtain ⟨p, m, rfl, hp, az, hl, lp, rfl⟩ := h
  unfold w__law_led
  refine seq_go fun nx hnx => ?_
  show (match decide (((p.map frD).length : Int) = 0) with
    | true => _
    | false => nx _)
  rw [List.length_map]
  rcases snoc_cases p with rfl | ⟨l, t, rfl⟩
  · rfl
  · have t0 := snoc_row hp
    have gt := az_last az
    rw [decide_eq_false (by rw [List.length_append]; show ¬ ((l.length + 1 : Nat) : Int) = 0; omega)]
    refine hnx _ ?_
    unfold rowD
    walk_at "dl"
    rw [map_snoc]
    show ixD (l.map frD ++ [frD t]) (-1) _
    rw [ixD_last]
    show ixD (l.map frD ++ [frD t]) (-1) _
    rw [ixD_last, ← map_snoc]
    refine call_ok (R := R__law_fraction py) (d := frD (1 / t)) ⟨_, _, rfl, sz_log gt (hl.low (by omega)).2, fun z => t0 (Rat.num_eq_zero.mp z), by rw [rat_inv]⟩ ?_
    refine call_ok ⟨l ++ [t], 1 / t, m, m + 1, rfl, az, sz_inv gt t0, hl.low (by omega), lp, rfl⟩ ?_
    show Res.ok (rowD (trim (sclL (1 / lead (l ++ [t])) (l ++ [t])))) = _
    rw [lead_snoc]
theorem pure_greatest (py : Prop) (ds : List D) (r : Res) (h : R_greatest py ds r) : w_greatest (fun g => r = .err g) py (endsOf r) (startΓ ["one", "other"] ds) := by
  obtain ⟨p, q, m, L, rfl, hp, hq, lp, lq, hL, sp, sq, hl, rfl⟩ := h
  have mz := le_zB m L
  have hm := sr_pos sp
  unfold w_greatest
  refine seq_go fun nx hnx => ?_
  refine wh_inv (fun (n : Nat) (Γ : Ct) => ∃ (a b : List Rat), b.length = n ∧ Gs p q a b ∧ Sr (zB m (2 * L)) a ∧ Sr (zB m (2 * L)) b ∧ Γ = [.im (rowD a), .im (rowD b)]) (fun n nx' Γ hn' hI => ?_) (n := q.length) ⟨p, q, rfl, .start hp hq, sp.up (by omega), sq.up (by omega), rfl⟩
  obtain ⟨a, b, rfl, hg, sa, sb, rfl⟩ := hI
  obtain ⟨ra, rb, la, lb⟩ := hg.rows hp hq
  show (match decide ((0 : Int) < (((b.map frD).length : Nat) : Int)) with
    | true => _
    | false => nx _)
  rw [List.length_map]
  by_cases b0 : b = []
  · rw [decide_eq_false (by rw [b0]; decide)]
    rw [b0] at hg
    refine hnx _ ?_
    walk_at "dl"
    have h2 := (gB_div (m := m) (L := L) (a := zB m (2 * L)) (b := zB m (2 * L)) (d := 0) (Nat.le_refl _) (Nat.le_refl _) (Nat.zero_le _)).1
    refine call_ok (d := rowD (gcd p q)) ⟨a, zB m (2 * L), rfl, ra, sa.az, hl.low (by omega), by omega, ?_⟩ rfl
    rw [hg.fin hp hq]
  · have bp := List.length_pos_iff.mpr b0
    rw [decide_eq_true (by omega)]
    obtain ⟨g1, g2, g3⟩ := hg.step hp hq sp sq lp lq hL hm b0
    obtain ⟨t1, t2⟩ := dv_bits (d := a.length + 1 - b.length) ra rb b0 sa sb (by omega)
    obtain ⟨e1, e2⟩ := gB_div (m := m) (L := L) (a := zB m (2 * L)) (b := zB m (2 * L)) (d := a.length + 1 - b.length) (Nat.le_refl _) (Nat.le_refl _) (by omega)
    have dv := dv_of ra rb b0
    have dl : (rem a b).length < b.length := dv.lt
    walk_at "dl"
    refine call_ok ⟨a, b, zB m (2 * L), zB m (2 * L), a.length + 1 - b.length, rfl, ra, rb, b0, sa, sb, by omega, by omega, by omega, hl.low (by omega), rfl⟩ ?_
    walk_at "dl"
    refine call_ok ⟨rem a b, _, rfl, dv.rl, t1.az, hl.low (by omega), by omega, rfl⟩ ?_
    exact hn' _ _ g2 ⟨b, ledR (rem a b), rfl, g1, sb, g3, rfl⟩
theorem pure__law_shared (py : Prop) (ds : List D) (r : Res) (h : R__law_shared py ds r) : w__law_shared (fun g => r = .err g) py (endsOf r) (startΓ ["_law_one", "_law_other"] ds) := by
  obtain ⟨p, q, m, L, rfl, hp, hq, lp, lq, hL, sp, sq, hl, rfl⟩ := h
  have mz := le_zB m L
  have hm := sr_pos sp
  unfold w__law_shared
  refine seq_go fun nx hnx => ?_
  refine wh_inv (fun (n : Nat) (Γ : Ct) => ∃ (a b : List Rat), b.length = n ∧ Gs p q a b ∧ Sr (zB m (2 * L)) a ∧ Sr (zB m (2 * L)) b ∧ Γ = [.im (rowD a), .im (rowD b)]) (fun n nx' Γ hn' hI => ?_) (n := q.length) ⟨p, q, rfl, .start hp hq, sp.up (by omega), sq.up (by omega), rfl⟩
  obtain ⟨a, b, rfl, hg, sa, sb, rfl⟩ := hI
  obtain ⟨ra, rb, la, lb⟩ := hg.rows hp hq
  show (match decide ((0 : Int) < (((b.map frD).length : Nat) : Int)) with
    | true => _
    | false => nx _)
  rw [List.length_map]
  by_cases b0 : b = []
  · rw [decide_eq_false (by rw [b0]; decide)]
    rw [b0] at hg
    refine hnx _ ?_
    walk_at "dl"
    have h2 := (gB_div (m := m) (L := L) (a := zB m (2 * L)) (b := zB m (2 * L)) (d := 0) (Nat.le_refl _) (Nat.le_refl _) (Nat.zero_le _)).1
    refine call_ok (d := rowD (gcd p q)) ⟨a, zB m (2 * L), rfl, ra, sa.az, hl.low (by omega), by omega, ?_⟩ rfl
    rw [hg.fin hp hq]
  · have bp := List.length_pos_iff.mpr b0
    rw [decide_eq_true (by omega)]
    obtain ⟨g1, g2, g3⟩ := hg.step hp hq sp sq lp lq hL hm b0
    obtain ⟨t1, t2⟩ := dv_bits (d := a.length + 1 - b.length) ra rb b0 sa sb (by omega)
    obtain ⟨e1, e2⟩ := gB_div (m := m) (L := L) (a := zB m (2 * L)) (b := zB m (2 * L)) (d := a.length + 1 - b.length) (Nat.le_refl _) (Nat.le_refl _) (by omega)
    have dv := dv_of ra rb b0
    have dl : (rem a b).length < b.length := dv.lt
    walk_at "dl"
    refine call_ok ⟨a, b, zB m (2 * L), zB m (2 * L), a.length + 1 - b.length, rfl, ra, rb, b0, sa, sb, by omega, by omega, by omega, hl.low (by omega), rfl⟩ ?_
    walk_at "dl"
    refine call_ok ⟨rem a b, _, rfl, dv.rl, t1.az, hl.low (by omega), by omega, rfl⟩ ?_
    exact hn' _ _ g2 ⟨b, ledR (rem a b), rfl, g1, sb, g3, rfl⟩
theorem pure_is_apart (py : Prop) (ds : List D) (r : Res) (h : R_is_apart py ds r) : w_is_apart (fun g => r = .err g) py (endsOf r) (startΓ ["one", "other"] ds) := by
  obtain ⟨p, q, m, L, rfl, hp, hq, lp, lq, hL, sp, sq, hl, rfl⟩ := h
  unfold w_is_apart
  rw [one_row]
  walk_at "dl"
  refine call_ok ⟨p, q, m, L, rfl, hp, hq, lp, lq, hL, sp, sq, hl, rfl⟩ ?_
  refine And.intro ⟨shaped_row _, shaped_row _⟩ ?_
  rw [eqv_row]
theorem pure_lowest (py : Prop) (ds : List D) (r : Res) (h : R_lowest py ds r) : w_lowest (fun g => r = .err g) py (endsOf r) (startΓ ["top", "bottom", "by", "number"] ds) := by
  obtain ⟨p, q, m, L, rfl, hp, hq, q0, lp, lq, hL, sp, sq, hl, rfl⟩ := h
  have F := shT_facts hp hq
  have rg := gcd_row hp hq
  have g0 := gcd_ne hp hq (.inr q0)
  have gp := List.length_pos_iff.mpr g0
  have hm := sr_pos sp
  have mz := le_zB m L
  have sg := gcd_sz hp hq sp sq lp lq hL hm
  have gl : (gcd p q).length ≤ max p.length q.length := by
    obtain ⟨v0, _, lv⟩ := cof_len hq rg (quo_dvd hq rg g0 F.dq).1 q0 (quo_dvd hq rg g0 F.dq).2
    have := List.length_pos_iff.mpr v0
    omega
  obtain ⟨rv, hv⟩ := quo_dvd hq rg g0 F.dq
  obtain ⟨v0, _, lv⟩ := cof_len hq rg rv q0 hv
  obtain ⟨_, t1⟩ := dv_bits (a := zB m (2 * L)) (d := p.length + 1 - (gcd p q).length) hp rg g0 (sp.up (by omega)) sg (by omega)
  obtain ⟨_, t2⟩ := dv_bits (a := zB m (2 * L)) (d := q.length + 1 - (gcd p q).length) hq rg g0 (sq.up (by omega)) sg (by omega)
  obtain ⟨e1, e2⟩ := gB_div (m := m) (L := L) (a := zB m (2 * L)) (b := zB m (2 * L)) (d := p.length + 1 - (gcd p q).length) (Nat.le_refl _) (Nat.le_refl _) (by omega)
  obtain ⟨e3, e4⟩ := gB_div (m := m) (L := L) (a := zB m (2 * L)) (b := zB m (2 * L)) (d := q.length + 1 - (gcd p q).length) (Nat.le_refl _) (Nat.le_refl _) (by omega)
  have lu := quo_len hp rg g0
  have lw := quo_len hq rg g0
  unfold w_lowest
  refine seq_go fun nx hnx => ?_
  walk_at "dl"
  refine call_ok ⟨p, q, m, L, rfl, hp, hq, lp, lq, hL, sp, sq, hl, rfl⟩ (hnx _ ?_)
  refine seq_go fun nx hnx => ?_
  walk_at "dl"
  refine call_ok ⟨p, gcd p q, zB m (2 * L), _, p.length + 1 - (gcd p q).length, rfl, hp, rg, g0, sp.up (by omega), sg, by omega, by omega, by omega, hl.low (by omega), rfl⟩ (hnx _ ?_)
  refine seq_go fun nx hnx => ?_
  walk_at "dl"
  refine call_ok ⟨q, gcd p q, zB m (2 * L), _, q.length + 1 - (gcd p q).length, rfl, hq, rg, g0, sq.up (by omega), sg, by omega, by omega, by omega, hl.low (by omega), rfl⟩ (hnx _ ?_)
  show (wSeq _ _) _ [.im (rowD (quo p (gcd p q))), .im (rowD (quo q (gcd p q))), _, _]
  unfold loD lowT ledR
  generalize quo p (gcd p q) = u at t1 lu ⊢
  generalize quo q (gcd p q) = v at t2 lw rv v0 ⊢
  generalize zB m (2 * L) + (p.length + 1 - (gcd p q).length) * (zB m (2 * L) + 1) + zB m (2 * L) = X at t1 e2
  generalize zB m (2 * L) + (q.length + 1 - (gcd p q).length) * (zB m (2 * L) + 1) + zB m (2 * L) = Y at t2 e4
  rcases snoc_cases v with rfl | ⟨l, t, rfl⟩
  · exact absurd rfl v0
  · have t0 := snoc_row rv
    have gt := az_last t2.az
    rw [lead_snoc]
    refine seq_go fun nx hnx => ?_
    unfold rowD
    walk_at "dl"
    rw [map_snoc]
    show ixD (l.map frD ++ [frD t]) (-1) _
    rw [ixD_last, ← map_snoc]
    refine call_ok (d := frD (1 / t)) ⟨1, t, 1, Y, rfl, sz_one, gt, hl.low (by omega), by rw [if_neg t0]⟩ (hnx _ ?_)
    walk_at "dl"
    refine call_ok ⟨u, 1 / t, X, Y + 1, rfl, t1.az, sz_inv gt t0, hl.low (by omega), by omega, rfl⟩ ?_
    refine call_ok ⟨l ++ [t], 1 / t, Y, Y + 1, rfl, t2.az, sz_inv gt t0, hl.low (by omega), by omega, rfl⟩ ?_
    rfl
theorem pure_quotient (py : Prop) (ds : List D) (r : Res) (h : R_quotient py ds r) : w_quotient (fun g => r = .err g) py (endsOf r) (startΓ ["top", "bottom"] ds) := by
  obtain ⟨d, e, rfl, h⟩ := h
  unfold w_quotient
  refine seq_go fun nx hnx => ?_
  walk_at "dl"
  rcases h with ⟨h1, rfl⟩ | ⟨h1, h2, rfl, rfl⟩ | ⟨p, q, m, L, rfl, rfl, r1, r2, q0, h1, h2, h3, h5, h6, h7, rfl⟩
  · exact call_err 1 ⟨_, rfl, by rw [need_two, h1]; rfl⟩ rfl
  · refine call_ok ⟨_, rfl, by rw [need_two, h1, h2]; rfl⟩ (hnx _ ?_)
    refine seq_go fun nx hnx => ?_
    rfl
  · refine call_ok ⟨_, rfl, by rw [need_two, isRow_rowD r1, isRow_rowD r2]; rfl⟩ (hnx _ ?_)
    refine seq_go fun nx hnx => ?_
    have l0 : 0 < q.length := List.length_pos_iff.mpr q0
    show (match decide (((q.map frD).length : Int) = 0) with
      | true => _
      | false => nx _)
    rw [List.length_map, decide_eq_false (by omega)]
    refine hnx _ ?_
    walk_at "dl"
    exact call_ok ⟨p, q, m, L, rfl, r1, r2, q0, h1, h2, h3, h5, h6, h7, rfl⟩ rfl
end DL

set_option linter.all false
set_option autoImplicit false
set_option maxRecDepth 10000
set_option maxHeartbeats 400000
namespace DL
open PySem PySem.Spec L2
local macro_rules | `(tactic| walk_at "dl") => `(tactic| simp -implicitDefEqProofs only [wSeq, wNext, wSet, wSetL, wAsg, wPar, parD, wRet, wExpr, wApp, wSetIx, wIf, wFrz, wRaise, wBreak, wCont, eVar, eC, eOp, tBl, dI, dB, dAdd, dSub, dMul, dFdiv, dMod, dPow, eNeg, dLt, dLe, dGt, dGe, dEq, dNe, dIs, dIsNot, eAnd, eOr, eNot, tAndD, tOrD, tNotD,
  aNil, aCons, eTup, eLst, lLst, eL, dIx, eSl, dSl, oNo, oSome, eCB, cLen, cAbs, cMax, cMin, cTuple, cList, cInt, eIsi, isiD, dName, dTupT, dCons, dNil, eCell, cellP, eIxO, eLenO, eCall, startΓ, startS, List.getElem?_cons_zero, List.getElem?_cons_succ, List.set, List.map, List.length, List.replicate, List.append, List.cons_append, List.nil_append, Nat.sub_self, Nat.reduceAdd, Nat.reduceSub, true_and, ixD_0, ixD_1, ixD_2, ixD_3, ixD_4, ixD_5, ixD_6, ixD_7, ixD_8, ixD_9, ixD_10, ixD_11, ixD_12, ixD_13, ixD_14, ixD_15, ixD_16, ixD_17, ixD_18, ixD_19])
/-! ### what is a quotient -/
def isQS : D → Bool
  | .tuple [a, b] => isRow a && isRow b
  | _ => false
def R_is_quotient (py : Prop) : List D → Res → Prop := fun ds r => ∃ d, ds = [d] ∧ ((isQS d = false ∧ r = .ok (.bool false)) ∨ (∃ p q : List Rat, d = .tuple [rowD p, rowD q] ∧ IsRow p ∧ IsRow q ∧ (q = [] ∨ lead q ≠ 1) ∧ r = .ok (.bool false)) ∨
  ∃ (p q : List Rat) (m L : Nat), d = .tuple [rowD p, rowD q] ∧ IsRow p ∧ IsRow q ∧ q ≠ [] ∧ lead q = 1 ∧ p.length ≤ L ∧ q.length ≤ L ∧ L ≤ 31 ∧ Sr m p ∧ Sr m q ∧ Lim py (gB m L) ∧ r = .ok (.bool (decide (gcd p q = [1]))))
def R__law_is_quotient (py : Prop) : List D → Res → Prop := R_is_quotient py
def w_is_quotient (Ex : Nat → Prop) (py : Prop) : DS :=
  (wSeq (wIf (tOrD (tNotD (tBl (eIsi .tuple (eVar 0)))) (tOrD (tBl (eOp dNe (eCB cLen (aCons (eVar 0) aNil)) (eC (.int 2)))) (tOrD (tNotD (tBl (eCall Ex (R_is_row py) (aCons (eOp dIx (eVar 0) (eC (.int 0))) aNil)))) (tNotD (tBl (eCall Ex (R_is_row py) (aCons (eOp dIx (eVar 0) (eC (.int 1))) aNil)))))))
  (wRet (eC (.bool false)))
  wNext)
  (wRet (eAnd (eOp dGt (eCB cLen (aCons (eOp dIx (eVar 0) (eC (.int 1))) aNil)) (eC (.int 0))) (eAnd (eOp dEq (eOp dIx (eOp dIx (eVar 0) (eC (.int 1))) (eNeg (eC (.int 1)))) (eTup (aCons (eC (.int 1)) (aCons (eC (.int 1)) aNil)))) (eCall Ex (R_is_apart py) (aCons (eOp dIx (eVar 0) (eC (.int 0))) (aCons (eOp dIx (eVar 0) (eC (.int 1))) aNil)))))))

def w__law_is_quotient (Ex : Nat → Prop) (py : Prop) : DS :=
  (wSeq (wIf (tOrD (tNotD (tBl (eIsi .tuple (eVar 0)))) (tOrD (tBl (eOp dNe (eCB cLen (aCons (eVar 0) aNil)) (eC (.int 2)))) (tOrD (tNotD (tBl (eCall Ex (R__law_is_row py) (aCons (eOp dIx (eVar 0) (eC (.int 0))) aNil)))) (tNotD (tBl (eCall Ex (R__law_is_row py) (aCons (eOp dIx (eVar 0) (eC (.int 1))) aNil)))))))
  (wRet (eC (.bool false)))
  wNext)
  (wSeq (wIf (tOrD (tBl (eOp dEq (eCB cLen (aCons (eOp dIx (eVar 0) (eC (.int 1))) aNil)) (eC (.int 0)))) (tBl (eOp dNe (eOp dIx (eOp dIx (eVar 0) (eC (.int 1))) (eNeg (eC (.int 1)))) (eTup (aCons (eC (.int 1)) (aCons (eC (.int 1)) aNil))))))
  (wRet (eC (.bool false)))
  wNext)
  (wRet (eOp dEq (eCall Ex (R__law_shared py) (aCons (eOp dIx (eVar 0) (eC (.int 0))) (aCons (eOp dIx (eVar 0) (eC (.int 1))) aNil))) (eTup (aCons (eTup (aCons (eC (.int 1)) (aCons (eC (.int 1)) aNil))) aNil))))))

theorem fr_one : PyData.tuple [.int 1, .int 1] = frD 1 := rfl
theorem isQS_row {p q : List Rat} (hp : IsRow p) (hq : IsRow q) : isQS (.tuple [rowD p, rowD q]) = true := by
  show (isRow _ && isRow _) = true
  rw [isRow_rowD hp, isRow_rowD hq]
  rfl
theorem at0_ (x : D) (l : List D) : atI (x :: l) 0 = some x := atI_nat (j := 0) rfl
theorem at1_ (x y : D) (l : List D) : atI (x :: y :: l) 1 = some y := atI_nat (j := 1) rfl
theorem pure_is_quotient (py : Prop) (ds : List D) (r : Res) (h : R_is_quotient py ds r) : w_is_quotient (fun g => r = .err g) py (endsOf r) (startΓ ["thing"] ds) := by
  obtain ⟨d, rfl, h⟩ := h
  unfold w_is_quotient
  refine seq_go fun nx hnx => ?_
  have key : (isQS d = false ∧ r = .ok (.bool false)) ∨ ∃ p q : List Rat, d = .tuple [rowD p, rowD q] ∧ IsRow p ∧ IsRow q ∧ (((q = [] ∨ lead q ≠ 1) ∧ r = .ok (.bool false)) ∨ ∃ (m L : Nat), q ≠ [] ∧ lead q = 1 ∧ p.length ≤ L ∧ q.length ≤ L ∧ L ≤ 31 ∧ Sr m p ∧ Sr m q ∧ Lim py (gB m L) ∧ r = .ok (.bool (decide (gcd p q = [1])))) := by
    rcases h with h | ⟨p, q, h1, h2, h3, h4⟩ | ⟨p, q, m, L, h1, h2, h3, h4⟩
    · exact .inl h
    · exact .inr ⟨p, q, h1, h2, h3, .inl h4⟩
    · exact .inr ⟨p, q, h1, h2, h3, .inr ⟨m, L, h4⟩⟩
  clear h
  rcases key with ⟨hs, rfl⟩ | ⟨p, q, rfl, hp, hq, h⟩
  · cases d with
    | tuple xs =>
      rcases xs with _ | ⟨x, _ | ⟨y, _ | ⟨z, l⟩⟩⟩
      · rfl
      · rfl
      · walk_at "dl"
        simp only [show ((0 + 1 + 1 : Nat) : Int) = 2 from rfl, decide_true, Bool.not_true]
        refine call_ok ⟨_, rfl, rfl⟩ ?_
        cases hx : isRow x with
        | false => trivial
        | true =>
          refine call_ok ⟨_, rfl, rfl⟩ ?_
          have : isRow y = false := by
            have h2 : (isRow x && isRow y) = false := hs
            rw [hx] at h2
            exact h2
          rw [this]
          trivial
      · walk_at "dl"
        have e : decide (((l.length + 1 + 1 + 1 : Nat) : Int) = 2) = false := decide_eq_false (by omega)
        simp only [e, Bool.not_false, Bool.not_true]
    | _ => rfl
  · walk_at "dl"
    simp only [show ((0 + 1 + 1 : Nat) : Int) = 2 from rfl, decide_true, Bool.not_true]
    refine call_ok ⟨_, rfl, rfl⟩ ?_
    rw [isRow_rowD hp]
    refine call_ok ⟨_, rfl, rfl⟩ ?_
    rw [isRow_rowD hq]
    refine hnx _ ?_
    rcases snoc_cases q with rfl | ⟨l, t, rfl⟩
    · rcases h with ⟨_, rfl⟩ | ⟨m, L, q0, _⟩
      · rfl
      · exact absurd rfl q0
    · unfold rowD
      walk_at "dl"
      have ln : decide ((0 : Int) < (((l ++ [t]).map frD).length : Int)) = true := decide_eq_true (by rw [List.length_map, List.length_append]; show (0 : Int) < ((l.length + 1 : Nat) : Int); omega)
      rw [ln, map_snoc]
      show ixD (l.map frD ++ [frD t]) (-1) _
      rw [ixD_last, ← map_snoc]
      rw [lead_snoc] at h
      refine And.intro ⟨shaped_fr t, shaped_fr 1⟩ ?_
      rw [fr_one, eqv_fr]
      rcases h with ⟨h1, rfl⟩ | ⟨m, L, q0, t1, lp, lq, hL, sp, sq, hl, rfl⟩
      · rw [decide_eq_false (show ¬ t = 1 from fun z => by
          rcases h1 with h1 | h1
          · simp at h1
          · exact h1 z)]
      · rw [decide_eq_true t1]
        exact call_ok ⟨p, l ++ [t], m, L, rfl, hp, hq, lp, lq, hL, sp, sq, hl, rfl⟩ rfl
theorem pure__law_is_quotient (py : Prop) (ds : List D) (r : Res) (h : R__law_is_quotient py ds r) : w__law_is_quotient (fun g => r = .err g) py (endsOf r) (startΓ ["_law_found"] ds) := by
  obtain ⟨d, rfl, h⟩ := h
  unfold w__law_is_quotient
  refine seq_go fun nx hnx => ?_
  have key : (isQS d = false ∧ r = .ok (.bool false)) ∨ ∃ p q : List Rat, d = .tuple [rowD p, rowD q] ∧ IsRow p ∧ IsRow q ∧ (((q = [] ∨ lead q ≠ 1) ∧ r = .ok (.bool false)) ∨ ∃ (m L : Nat), q ≠ [] ∧ lead q = 1 ∧ p.length ≤ L ∧ q.length ≤ L ∧ L ≤ 31 ∧ Sr m p ∧ Sr m q ∧ Lim py (gB m L) ∧ r = .ok (.bool (decide (gcd p q = [1])))) := by
    rcases h with h | ⟨p, q, h1, h2, h3, h4⟩ | ⟨p, q, m, L, h1, h2, h3, h4⟩
    · exact .inl h
    · exact .inr ⟨p, q, h1, h2, h3, .inl h4⟩
    · exact .inr ⟨p, q, h1, h2, h3, .inr ⟨m, L, h4⟩⟩
  clear h
  rcases key with ⟨hs, rfl⟩ | ⟨p, q, rfl, hp, hq, h⟩
  · cases d with
    | tuple xs =>
      rcases xs with _ | ⟨x, _ | ⟨y, _ | ⟨z, l⟩⟩⟩
      · rfl
      · rfl
      · walk_at "dl"
        simp only [show ((0 + 1 + 1 : Nat) : Int) = 2 from rfl, decide_true, Bool.not_true]
        refine call_ok ⟨_, rfl, rfl⟩ ?_
        cases hx : isRow x with
        | false => trivial
        | true =>
          refine call_ok ⟨_, rfl, rfl⟩ ?_
          have : isRow y = false := by
            have h2 : (isRow x && isRow y) = false := hs
            rw [hx] at h2
            exact h2
          rw [this]
          trivial
      · walk_at "dl"
        have e : decide (((l.length + 1 + 1 + 1 : Nat) : Int) = 2) = false := decide_eq_false (by omega)
        simp only [e, Bool.not_false, Bool.not_true]
    | _ => rfl
  · walk_at "dl"
    simp only [show ((0 + 1 + 1 : Nat) : Int) = 2 from rfl, decide_true, Bool.not_true]
    refine call_ok ⟨_, rfl, rfl⟩ ?_
    rw [isRow_rowD hp]
    refine call_ok ⟨_, rfl, rfl⟩ ?_
    rw [isRow_rowD hq]
    refine hnx _ ?_
    refine seq_go fun nx hnx => ?_
    rcases snoc_cases q with rfl | ⟨l, t, rfl⟩
    · rcases h with ⟨_, rfl⟩ | ⟨m, L, q0, _⟩
      · rfl
      · exact absurd rfl q0
    · unfold rowD
      walk_at "dl"
      have ln : decide ((((l ++ [t]).map frD).length : Int) = 0) = false := decide_eq_false (by rw [List.length_map, List.length_append]; show ¬ ((l.length + 1 : Nat) : Int) = 0; omega)
      rw [ln, map_snoc]
      show ixD (l.map frD ++ [frD t]) (-1) _
      rw [ixD_last, ← map_snoc]
      rw [lead_snoc] at h
      refine And.intro ⟨shaped_fr t, shaped_fr 1⟩ ?_
      rw [fr_one, eqv_fr]
      rcases h with ⟨h1, rfl⟩ | ⟨m, L, q0, t1, lp, lq, hL, sp, sq, hl, rfl⟩
      · rw [decide_eq_false (show ¬ t = 1 from fun z => by
          rcases h1 with h1 | h1
          · simp at h1
          · exact h1 z)]
        rfl
      · rw [decide_eq_true t1]
        refine hnx _ ?_
        try unfold rowD
        walk_at "dl"
        refine call_ok ⟨p, l ++ [t], m, L, rfl, hp, hq, lp, lq, hL, sp, sq, hl, rfl⟩ ?_
        refine And.intro ⟨shaped_row _, shaped_row [1]⟩ ?_
        rw [show PyData.eqv (rowD (gcd p (l ++ [t]))) (.tuple [.tuple [.int 1, .int 1]]) = decide (gcd p (l ++ [t]) = [1]) from eqv_row _ [1]]
/-! ### what is none -/
def badAt (x : Int) (f : List Rat) : Nat := (x / 96 % (f.length : Int)).toNat
def badRow (x : Int) (f : List Rat) : D := .tuple ((f.map frD).take (badAt x f) ++ [badD x] ++ (f.map frD).drop (badAt x f))
def oth1 (p q : List Rat) : List D := [.tuple [rowD (trim (sclL 2 p)), rowD (trim (sclL 2 q))], .tuple [rowD p, .tuple []], .list [rowD p, rowD q], rowD q, .none, .tuple [rowD p], .tuple [rowD p, rowD q, rowD p], .int 7, .str "q"]
def oth2 (p q f : List Rat) : List D := if p = [] then oth1 p q else oth1 p q ++ [.tuple [rowD (trim (mulL p f)), rowD (trim (mulL q f))]]
def oth3 (p f : List Rat) (x : Int) : List D := [.tuple [wrongD x (p ++ [1]), rowD [1]], .tuple [rowD [1], badRow x f]]
def othersL (p q f : List Rat) (xs : List Int) : List D := oth2 p q f ++ xs.flatMap (oth3 p f)
def R__law_others (py : Prop) : List D → Res → Prop := fun ds r => ∃ (p q f : List Rat) (xs : List Int) (m : Nat), ds = [.tuple [rowD p, rowD q], rowD f, intsD xs] ∧ Sr m p ∧ Sr m q ∧ Sr 23 f ∧ 2 ≤ f.length ∧ f.length ≤ 4 ∧ xs.length ≤ 8 ∧ p.length ≤ 100 ∧ q.length ≤ 100 ∧ Lim py (2 * (m + 23) + 20) ∧ r = .ok (.list (othersL p q f xs))
def w__law_others (Ex : Nat → Prop) (py : Prop) : DS :=
  (wSeq (wSet 3 (eTup (aCons (eCall Ex (R__law_times py) (aCons (eOp dIx (eVar 0) (eC (.int 0))) (aCons (eVar 1) aNil))) (aCons (eCall Ex (R__law_times py) (aCons (eOp dIx (eVar 0) (eC (.int 1))) (aCons (eVar 1) aNil))) aNil))))
  (wSeq (wSet 4 (eTup (aCons (eCall Ex (R__law_scale py) (aCons (eOp dIx (eVar 0) (eC (.int 0))) (aCons (eTup (aCons (eC (.int 2)) (aCons (eC (.int 1)) aNil))) aNil))) (aCons (eCall Ex (R__law_scale py) (aCons (eOp dIx (eVar 0) (eC (.int 1))) (aCons (eTup (aCons (eC (.int 2)) (aCons (eC (.int 1)) aNil))) aNil))) aNil))))
  (wSeq (wSetL 5 (lLst (aCons (eVar 4) (aCons (eTup (aCons (eOp dIx (eVar 0) (eC (.int 0))) (aCons (eTup aNil) aNil))) (aCons (eLst (aCons (eOp dIx (eVar 0) (eC (.int 0))) (aCons (eOp dIx (eVar 0) (eC (.int 1))) aNil))) (aCons (eOp dIx (eVar 0) (eC (.int 1))) (aCons (eC .none) (aCons (eTup (aCons (eOp dIx (eVar 0) (eC (.int 0))) aNil)) (aCons (eOp dAdd (eVar 0) (eTup (aCons (eOp dIx (eVar 0) (eC (.int 0))) aNil))) (aCons (eC (.int 7)) (aCons (eC (.str "q")) aNil)))))))))))
  (wSeq (wIf (tBl (eOp dNe (eOp dIx (eVar 0) (eC (.int 0))) (eTup aNil)))
  (wApp 5 (eVar 3))
  wNext)
  (wSeq (wFor (iLst (eVar 2)) (dName 6)
  (wSeq (wSet 7 (eOp dMod (eOp (dFdiv py) (eVar 6) (eC (.int 96))) (eCB cLen (aCons (eVar 1) aNil))))
  (wSeq (wApp 5 (eTup (aCons (eCall Ex (R__law_wrong_row py) (aCons (eVar 6) (aCons (eOp dAdd (eOp dIx (eVar 0) (eC (.int 0))) (eTup (aCons (eTup (aCons (eC (.int 1)) (aCons (eC (.int 1)) aNil))) aNil))) aNil))) (aCons (eTup (aCons (eTup (aCons (eC (.int 1)) (aCons (eC (.int 1)) aNil))) aNil)) aNil))))
  (wApp 5 (eTup (aCons (eTup (aCons (eTup (aCons (eC (.int 1)) (aCons (eC (.int 1)) aNil))) aNil)) (aCons (eOp dAdd (eOp dAdd (eSl (eVar 1) oNo (oSome (eVar 7))) (eTup (aCons (eCall Ex (R__law_bad py) (aCons (eVar 6) aNil)) aNil))) (eSl (eVar 1) (oSome (eVar 7)) oNo)) aNil)))))))
  (wFrz 5 (wRet (eVar 5))))))))
theorem flat_len {p f : List Rat} : ∀ xs : List Int, (xs.flatMap (oth3 p f)).length = 2 * xs.length
  | [] => rfl
  | x :: xs => by rw [List.flatMap_cons, List.length_append, flat_len xs, List.length_cons]; show 2 + _ = _; omega
theorem oth2_len (p q f : List Rat) : (oth2 p q f).length ≤ 10 := by
  unfold oth2
  split
  · exact Nat.le_succ _
  · exact Nat.le_refl _
theorem pure__law_others (py : Prop) (ds : List D) (r : Res) (h : R__law_others py ds r) : w__law_others (fun g => r = .err g) py (endsOf r) (startΓ ["_law_found", "_law_row", "_law_xs", "_law_both", "_law_unled", "_law_others_here", "_law_x", "_law_at"] ds) := by
  obtain ⟨p, q, f, xs, m, rfl, sp, sq, sf, f2, f4, hx, lp, lq, hl, rfl⟩ := h
  have z96 : (0 : Int) < 96 ∧ ((96 : Int).natAbs.log2 < 9000 ∨ py) := ⟨by decide, .inl (by decide)⟩
  have t2 : Sz 2 2 := ⟨by decide, by decide⟩
  unfold w__law_others
  refine seq_go fun nx hnx => ?_
  walk_at "dl"
  refine call_ok ⟨p, f, m, 23, rfl, sp, sf, hl, by omega, by omega, rfl⟩ ?_
  refine call_ok ⟨q, f, m, 23, rfl, sq, sf, hl, by omega, by omega, rfl⟩ (hnx _ ?_)
  refine seq_go fun nx hnx => ?_
  walk_at "dl"
  refine call_ok ⟨p, 2, m, 2, rfl, sp.az, t2, hl.low (by omega), by omega, rfl⟩ ?_
  refine call_ok ⟨q, 2, m, 2, rfl, sq.az, t2, hl.low (by omega), by omega, rfl⟩ (hnx _ ?_)
  refine seq_go fun nx hnx => ?_
  walk_at "dl"
  refine ⟨line_le (by show 2 + 1 ≤ _; omega), hnx _ ?_⟩
  refine seq_go fun nx hnx => ?_
  have go : nx [.im (.tuple [rowD p, rowD q]), .im (rowD f), .im (intsD xs), .im (.tuple [rowD (trim (mulL p f)), rowD (trim (mulL q f))]), .im (.tuple [rowD (trim (sclL 2 p)), rowD (trim (sclL 2 q))]), .own (oth2 p q f), .no, .no] := by
    refine hnx _ ?_
    refine seq_go fun nx hnx => ?_
    unfold wFor iLst intsD
    walk_at "dl"
    refine for_inv (fun (i : Nat) (Γ : Ct) => i ≤ xs.length ∧ ∃ e6 e7 : En, Γ = [.im (.tuple [rowD p, rowD q]), .im (rowD f), .im (.list (xs.map PyData.int)), .im (.tuple [rowD (trim (mulL p f)), rowD (trim (mulL q f))]), .im (.tuple [rowD (trim (sclL 2 p)), rowD (trim (sclL 2 q))]), .own (oth2 p q f ++ (xs.take i).flatMap (oth3 p f)), e6, e7]) (fun i d nx' Γ hd hn' hI => ?_) (fun Γ hI => ?_) ⟨Nat.zero_le _, .no, .no, by rw [List.take_zero]; show _ = [_, _, _, _, _, En.own (_ ++ []), _, _]; rw [List.append_nil]⟩
    · obtain ⟨_, e6, e7, rfl⟩ := hI
      rw [List.getElem?_map] at hd
      obtain ⟨x, hx1, rfl⟩ := Option.map_eq_some_iff.mp hd
      have hi : i < xs.length := (List.getElem?_eq_some_iff.mp hx1).1
      have h1 := Int.emod_nonneg (x / 96) (show (f.length : Int) ≠ 0 by omega)
      have h2 := Int.emod_lt_of_pos (x / 96) (show 0 < (f.length : Int) by omega)
      have at_ : x / 96 % (f.length : Int) = ((badAt x f : Nat) : Int) := by unfold badAt; omega
      have at_le : badAt x f ≤ f.length := by unfold badAt; omega
      have few : (oth2 p q f ++ (xs.take i).flatMap (oth3 p f)).length ≤ 30 := by
        rw [List.length_append, flat_len, List.length_take]
        have := oth2_len p q f
        omega
      refine seq_go fun nx2 hnx2 => ?_
      try unfold rowD
      walk_at "dl"
      rw [List.length_map, at_]
      refine ⟨z96, by omega, hnx2 _ ?_⟩
      refine seq_go fun nx2 hnx2 => ?_
      try unfold rowD
      walk_at "dl"
      rw [fr_one, ← map_snoc]
      refine ⟨line_le (by rw [List.length_map]; omega), ?_⟩
      refine call_ok ⟨x, p ++ [1], rfl, by rw [List.length_append]; show p.length + 1 ≤ _; omega, rfl⟩ ⟨line_lt (by omega), hnx2 _ ?_⟩
      try unfold rowD
      walk_at "dl"
      rw [cutD_to _ _ (by rw [List.length_map]; exact at_le), cutD_from _ _ (by rw [List.length_map]; exact at_le)]
      refine call_ok ⟨_, rfl, rfl⟩ ⟨line_le ?_, line_le ?_, line_lt (by rw [List.length_append]; show _ + 1 ≤ _; omega), ?_⟩
      · rw [List.length_take, List.length_map]; show min _ _ + 1 ≤ _; omega
      · rw [List.length_append, List.length_take, List.length_drop, List.length_map]; show min _ _ + 1 + _ ≤ _; omega
      · refine hn' _ ⟨hi, .im (.int x), .im (.int (badAt x f)), ?_⟩
        have tk : xs.take (i + 1) = xs.take i ++ [x] := by rw [List.take_succ, hx1]; rfl
        rw [tk, List.flatMap_append]
        show _ = [_, _, _, _, _, En.own (_ ++ (_ ++ (oth3 p f x ++ []))), _, _]
        rw [List.append_nil, ← List.append_assoc]
        show _ = [_, _, _, _, _, En.own (_ ++ [_, _]), _, _]
        rw [List.append_assoc]
        rfl
    · obtain ⟨_, e6, e7, rfl⟩ := hI
      refine hnx _ ?_
      rw [List.length_map, List.take_length]
      rfl
  by_cases p0 : p = []
  · have e2 : oth2 p q f = oth1 p q := by unfold oth2; rw [if_pos p0]
    refine if_false (fun P hP => ?_) ?_
    · refine And.intro ⟨shaped_row p, shaped_row []⟩ ?_
      rw [show PyData.eqv (rowD p) (.tuple []) = true by rw [show PyData.tuple [] = rowD [] from rfl, eqv_row, decide_eq_true p0]]
      exact hP
    · rw [e2] at go
      exact go
  · have e2 : oth2 p q f = oth1 p q ++ [.tuple [rowD (trim (mulL p f)), rowD (trim (mulL q f))]] := by unfold oth2; rw [if_neg p0]
    refine if_true (fun P hP => ?_) ?_
    · refine And.intro ⟨shaped_row p, shaped_row []⟩ ?_
      rw [show PyData.eqv (rowD p) (.tuple []) = false by rw [show PyData.tuple [] = rowD [] from rfl, eqv_row, decide_eq_false p0]]
      exact hP
    · rw [e2] at go
      walk_at "dl"
      exact ⟨line_lt (by show 9 ≤ _; omega), go⟩
end DL

set_option linter.all false
set_option autoImplicit false
namespace DL
/-! ### the rate of a row -/
def dR : List Rat → List Rat
  | [] => []
  | _ :: l => addL l (0 :: dR l)
theorem ev_dR_cons (a : Rat) (l : List Rat) (x : Rat) : ev (dR (a :: l)) x = ev l x + x * ev (dR l) x := by
  rw [dR, ev_add, ev_cons]; grind
theorem ev_dR_add (p q : List Rat) (x : Rat) : ev (dR (addL p q)) x = ev (dR p) x + ev (dR q) x := by
  induction p generalizing q with
  | nil => rw [addL]; show _ = 0 + _; grind
  | cons a p ih =>
    cases q with
    | nil => rw [addL]; show _ = _ + 0; grind
    | cons b q => rw [addL, ev_dR_cons, ev_dR_cons, ev_dR_cons, ih, ev_add]; grind
theorem ev_dR_scl (c : Rat) (p : List Rat) (x : Rat) : ev (dR (sclL c p)) x = ev (dR p) x * c := by
  induction p with
  | nil => show (0 : Rat) = 0 * c; grind
  | cons a p ih =>
    have e : sclL c (a :: p) = a * c :: sclL c p := rfl
    rw [e, ev_dR_cons, ev_dR_cons, ih, ev_scl]; grind
theorem ev_dR_mul (p q : List Rat) (x : Rat) : ev (dR (mulL p q)) x = ev (dR p) x * ev q x + ev p x * ev (dR q) x := by
  induction p with
  | nil => show (0 : Rat) = 0 * _ + 0 * _; grind
  | cons a p ih => rw [mulL, ev_dR_add, ev_dR_scl, ev_dR_cons, ev_dR_cons, ih, ev_mul, ev_cons]; grind
theorem ev_dR_zero (l : List Rat) (h : ∀ a ∈ l, a = 0) (x : Rat) : ev (dR l) x = 0 := by
  induction l with
  | nil => rfl
  | cons a l ih =>
    have z : ev l x = 0 := by
      rw [← ev_trim, trim_zeros l fun b hb => h b (List.mem_cons_of_mem _ hb), ev_nil]
    rw [ev_dR_cons, z, ih fun b hb => h b (List.mem_cons_of_mem _ hb)]
    grind
theorem dR_ext {p q : List Rat} (h : ∀ x, ev p x = ev q x) (x : Rat) : ev (dR p) x = ev (dR q) x := by
  have z := ev_dR_zero (addL p (sclL (-1) q)) (ev_zero _ fun y => by rw [ev_add, ev_scl, h]; grind) x
  rw [ev_dR_add, ev_dR_scl] at z
  grind
theorem ev_dR_trim (l : List Rat) (x : Rat) : ev (dR (trim l)) x = ev (dR l) x := dR_ext (ev_trim l) x
/-- each by its place, from k on -/
def slS (k : Nat) : List Rat → List Rat
  | [] => []
  | a :: l => a * (k : Rat) :: slS (k + 1) l
theorem ev_slS (l : List Rat) (k : Nat) (x : Rat) : ev (slS (k + 1) l) x = ev l x + ev (slS k l) x := by
  induction l generalizing k with
  | nil => show (0 : Rat) = 0 + 0; grind
  | cons a l ih =>
    have c : ((k + 1 : Nat) : Rat) = (k : Rat) + 1 := by rw [Rat.natCast_add]; rfl
    rw [slS, slS, ev_cons, ev_cons, ev_cons, ih, c]
    grind
theorem ev_slS1 (l : List Rat) (a : Rat) (x : Rat) : ev (slS 1 l) x = ev (dR (a :: l)) x := by
  induction l generalizing a with
  | nil => rw [ev_dR_cons]; show (0 : Rat) = 0 + x * 0; grind
  | cons b l ih =>
    have h := ev_slS (b :: l) 0 x
    rw [Nat.zero_add] at h
    rw [h, slS, ev_cons, ev_cons, Nat.zero_add, ih b, ev_dR_cons a, ev_cons]
    have : ((0 : Nat) : Rat) = 0 := rfl
    rw [this]
    grind
/-! one pair of rows in lowest terms for each worth -/
theorem low_uniq {p q p' q' : List Rat} (hp : IsRow p) (hq : IsRow q) (q0 : q ≠ []) (hp' : IsRow p') (hq' : IsRow q') (q0' : q' ≠ []) (h : ∀ x, ev p x * ev q' x = ev p' x * ev q x) : lowT p q = lowT p' q' := by
  have F := low_facts hp hq q0
  have F' := low_facts hp' hq' q0'
  generalize lowT p q = t at F
  generalize lowT p' q' = t' at F'
  obtain ⟨g, rg, g0, e1, e2⟩ := F.d1
  obtain ⟨g', rg', g0', e1', e2'⟩ := F'.d1
  have key : ∀ x, ev t.1 x * ev t'.2 x = ev t'.1 x * ev t.2 x := fun x => by
    have d := mul_short (n := 0) (D := trim (addL (mulL t.1 t'.2) (sclL (-1) (mulL t'.1 t.2)))) (p := trim (mulL g g')) (f := []) (row_trim _) (row_trim _) (fun z => by
      have := mul_row_len rg rg' g0 g0'
      rw [z] at this
      have l1 := List.length_pos_iff.mpr g0
      have l2 := List.length_pos_iff.mpr g0'
      have : 0 + 1 = g.length + g'.length := this
      omega) (by
      have := mul_row_len rg rg' g0 g0'
      have l1 := List.length_pos_iff.mpr g0
      have l2 := List.length_pos_iff.mpr g0'
      show 0 < _
      omega) fun x => by
      have := h x
      rw [e1, e2, e1', e2'] at this
      rw [ev_trim, ev_add, ev_scl, ev_trim, ev_mul, ev_mul, ev_mul, ev_nil]
      grind
    have := (row_eq_nil_iff (row_trim _)).mp d x
    rw [ev_trim, ev_add, ev_scl, ev_mul, ev_mul] at this
    grind
  have dv : ∀ {u v u' v' : List Rat}, IsRow u → IsRow v → gcd u v = [1] → (∀ x, ev u x * ev v' x = ev u' x * ev v x) → Dvd v v' := fun {u v u' v'} hu hv ho hk => by
    obtain ⟨s, t, _, _, hb⟩ := bez_one hu hv ho
    refine ⟨addL (mulL s u') (mulL t v'), fun x => ?_⟩
    have h1 := hb x
    have h2 := hk x
    rw [ev_add, ev_mul, ev_mul]
    have : ev v' x = ev v' x * (ev s x * ev u x + ev t x * ev v x) := by rw [h1]; grind
    rw [this]
    grind
  have e : t.2 = t'.2 := monic_uniq F.led F'.led (dv F.r1 F.r2 F.one key) (dv F'.r1 F'.r2 F'.one fun x => (key x).symm)
  obtain ⟨l, hl⟩ := F.led
  have n0 : t.2 ≠ [] := by rw [hl]; simp
  have e3 : t.1 = t'.1 := ev_cancel F.r2 n0 F.r1 F'.r1 fun x => by rw [← key x, e]
  exact Prod.ext e3 e
/-- what is in lowest terms stays -/
theorem low_self {u v : List Rat} (hu : IsRow u) (hv : ∃ l, v = l ++ [1]) (h : gcd u v = [1]) : lowT u v = (u, v) := by
  have rv : IsRow v := by obtain ⟨l, rfl⟩ := hv; exact row_snoc _ (by decide)
  have v0 : v ≠ [] := by obtain ⟨l, rfl⟩ := hv; simp
  have F := low_facts hu rv v0
  generalize lowT u v = t at F
  obtain ⟨g, rg, g0, e1, e2⟩ := F.d1
  have dv : Dvd v t.2 := by
    obtain ⟨a, b, _, _, hb⟩ := bez_one hu rv h
    refine ⟨addL (mulL a t.1) (mulL b t.2), fun x => ?_⟩
    have h1 := hb x
    have h2 := F.eq x
    rw [ev_add, ev_mul, ev_mul]
    have : ev t.2 x = ev t.2 x * (ev a x * ev u x + ev b x * ev v x) := by rw [h1]; grind
    rw [this]
    grind
  have e : t.2 = v := monic_uniq F.led hv ⟨g, fun x => by rw [e2]; grind⟩ dv
  have e3 : t.1 = u := ev_cancel rv v0 F.r1 hu fun x => by
    have := F.eq x
    rw [e] at this
    grind
  exact Prod.ext e3 e
/-! powers -/
def powR (f : List Rat) : Nat → List Rat
  | 0 => [1]
  | n + 1 => trim (mulL (powR f n) f)
theorem powR_row (f : List Rat) (n : Nat) : IsRow (powR f n) := by
  cases n with
  | zero => exact row_one1
  | succ n => exact row_trim _
theorem powR_len (f : List Rat) (n : Nat) (hf : 1 ≤ f.length) : (powR f n).length ≤ (f.length - 1) * n + 1 := by
  induction n with
  | zero => exact Nat.le_refl _
  | succ n ih =>
    have := mulR_len (powR f n) f
    show (trim _).length ≤ _
    rw [Nat.mul_succ]
    omega
theorem powR_sr {f : List Rat} {m n : Nat} (hf : 1 ≤ f.length) (sf : Sr m f) (hl : (f.length - 1) * n ≤ 30) : Sr (1 + (m + 5) * n) (powR f n) := by
  induction n with
  | zero => exact Sr.up (m := 1) ⟨1, 1, by decide, by decide, by decide, .cons ⟨1, by rw [Rat.one_mul]; rfl, by decide⟩ .nil⟩ (by omega)
  | succ n ih =>
    rw [Nat.mul_succ] at hl
    have h1 := powR_len f n hf
    have h2 := ((ih (by omega)).mul sf (k := 5) (by omega)).trim
    rw [Nat.mul_succ]
    exact h2.up (by omega)
theorem ev_powR (f : List Rat) (n : Nat) (x : Rat) : ev (powR f n) x = ev f x ^ n := by
  induction n with
  | zero => show ev [1] x = _; rw [ev_cons, ev_nil, Rat.pow_zero]; grind
  | succ n ih => show ev (trim _) x = _; rw [ev_trim, ev_mul, ih, Rat.pow_succ]
theorem powR_monic {f : List Rat} (hf : ∃ l, f = l ++ [1]) (n : Nat) : ∃ l, powR f n = l ++ [1] := by
  induction n with
  | zero => exact ⟨[], rfl⟩
  | succ n ih =>
    obtain ⟨l, h1⟩ := ih
    obtain ⟨k, h2⟩ := hf
    obtain ⟨R, _, h⟩ := mul_snoc l k (a := 1) (b := 1) (by decide) (by decide)
    refine ⟨R, ?_⟩
    show trim (mulL (powR f n) f) = _
    rw [h1, h2, h, Rat.mul_one]
end DL

set_option linter.all false
set_option autoImplicit false
set_option maxRecDepth 10000
set_option maxHeartbeats 400000
namespace DL
open PySem PySem.Spec L2
local macro_rules | `(tactic| walk_at "dl") => `(tactic| simp -implicitDefEqProofs only [wSeq, wNext, wSet, wSetL, wAsg, wPar, parD, wRet, wExpr, wApp, wSetIx, wIf, wFrz, wRaise, wBreak, wCont, eVar, eC, eOp, tBl, dI, dB, dAdd, dSub, dMul, dFdiv, dMod, dPow, eNeg, dLt, dLe, dGt, dGe, dEq, dNe, dIs, dIsNot, eAnd, eOr, eNot, tAndD, tOrD, tNotD,
  aNil, aCons, eTup, eLst, lLst, eL, dIx, eSl, dSl, oNo, oSome, eCB, cLen, cAbs, cMax, cMin, cTuple, cList, cInt, eIsi, isiD, dName, dTupT, dCons, dNil, eCell, cellP, eIxO, eLenO, eCall, startΓ, startS, List.getElem?_cons_zero, List.getElem?_cons_succ, List.set, List.map, List.length, List.replicate, List.append, List.cons_append, List.nil_append, Nat.sub_self, Nat.reduceAdd, Nat.reduceSub, true_and, ixD_0, ixD_1, ixD_2, ixD_3, ixD_4, ixD_5, ixD_6, ixD_7, ixD_8, ixD_9, ixD_10, ixD_11, ixD_12, ixD_13, ixD_14, ixD_15, ixD_16, ixD_17, ixD_18, ixD_19])
/-! ### quotients together, and their rates -/
theorem slS_map (l : List Rat) (k : Nat) : (List.range' k l.length).map (fun i => l.getD (i - k) 0 * (i : Rat)) = slS k l := by
  induction l generalizing k with
  | nil => rfl
  | cons a l ih =>
    rw [List.length_cons, List.range'_succ, List.map_cons, slS, Nat.sub_self, ← ih (k + 1)]
    show a * (k : Rat) :: _ = _
    congr 1
    refine List.map_congr_left fun i hi => ?_
    have h := (List.mem_range'_1.mp hi).1
    rw [show i - k = (i - (k + 1)) + 1 by omega]
    rfl
theorem slopeL_eq (a : Rat) (l : List Rat) : slopeL (a :: l) = slS 1 l := by
  unfold slopeL
  rw [← slS_map, List.length_cons, Nat.add_sub_cancel]
  refine List.map_congr_left fun i hi => ?_
  have h := (List.mem_range'_1.mp hi).1
  rw [show i = (i - 1) + 1 by omega]
  rfl
theorem ev_slope (l : List Rat) (x : Rat) : ev (slopeL l) x = ev (dR l) x := by
  cases l with
  | nil => rfl
  | cons a l => rw [slopeL_eq, ev_slS1]
def slR (l : List Rat) : List Rat := trim (slopeL l)
theorem ev_slR (l : List Rat) (x : Rat) : ev (slR l) x = ev (dR l) x := by unfold slR; rw [ev_trim, ev_slope]
theorem slopeL_len (l : List Rat) : (slopeL l).length = l.length - 1 := by unfold slopeL; rw [List.length_map, List.length_range']
theorem slR_len (l : List Rat) : (slR l).length ≤ l.length - 1 := Nat.le_trans (trim_len _) (by rw [slopeL_len]; exact Nat.le_refl _)
theorem slR_sr {m : Nat} {l : List Rat} (h : Sr m l) (hl : l.length ≤ 32) : Sr (m + 5) (slR l) := by
  obtain ⟨E, B, e0, e1, e2, e3⟩ := h
  refine Sr.trim ⟨E, B * 31, e0, Nat.lt_of_lt_of_le e1 (Nat.pow_le_pow_right (by decide) (by omega)), by rw [Nat.pow_add]; exact Nat.mul_lt_mul'' e2 (by decide), fun q hq => ?_⟩
  unfold slopeL at hq
  obtain ⟨i, hi, rfl⟩ := List.mem_map.mp hq
  obtain ⟨h1, h2⟩ := List.mem_range'_1.mp hi
  have lt : i < l.length := by omega
  rw [getD_lt l lt]
  have := (e3 _ (List.getElem_mem lt)).mul ((Ib.nat i).up (show i ≤ 31 by omega))
  have e : l[i] * (E : Rat) * (i : Rat) = l[i] * (i : Rat) * (E : Rat) := by grind
  rw [e] at this
  exact this
def toP (p1 q1 p2 q2 : List Rat) : List Rat := trim (addL (trim (mulL p1 q2)) (trim (mulL p2 q1)))
def slT (p q : List Rat) : List Rat := trim (addL (trim (mulL (slR p) q)) (trim (sclL (-1) (trim (mulL p (slR q))))))
def R_need_quotients (py : Prop) : List D → Res → Prop := fun ds r => ∃ xs, ds = [.list xs] ∧ (((∀ d ∈ xs, R_is_quotient py [d] (.ok (.bool true))) ∧ r = .ok .none) ∨ ∃ pre d post, xs = pre ++ d :: post ∧ (∀ e ∈ pre, R_is_quotient py [e] (.ok (.bool true))) ∧ R_is_quotient py [d] (.ok (.bool false)) ∧ r = .err 2)
def R_together (py : Prop) : List D → Res → Prop := fun ds r => ∃ (p1 q1 p2 q2 : List Rat) (m L : Nat), ds = [.tuple [rowD p1, rowD q1], .tuple [rowD p2, rowD q2]] ∧ IsRow q1 ∧ IsRow q2 ∧ q1 ≠ [] ∧ q2 ≠ [] ∧ Sr m p1 ∧ Sr m q1 ∧ Sr m p2 ∧ Sr m q2 ∧ p1.length + q2.length ≤ L ∧ p2.length + q1.length ≤ L ∧ q1.length + q2.length ≤ L ∧ L ≤ 31 ∧ Lim py (gB (4 * m + 11) L) ∧ r = .ok (loD (toP p1 q1 p2 q2) (trim (mulL q1 q2)))
def R_slope_of (py : Prop) : List D → Res → Prop := fun ds r => ∃ (p q : List Rat) (m L : Nat), ds = [.tuple [rowD p, rowD q]] ∧ IsRow q ∧ q ≠ [] ∧ Sr m p ∧ Sr m q ∧ p.length + q.length ≤ L ∧ q.length + q.length ≤ L ∧ L ≤ 31 ∧ Lim py (gB (4 * m + 33) L) ∧ r = .ok (loD (slT p q) (trim (mulL q q)))
def R_joined (py : Prop) : List D → Res → Prop := fun ds r => ∃ d e, ds = [d, e] ∧ ((R_need_quotients py [.list [d, e]] (.err 2) ∧ r = .err 2) ∨ (R_need_quotients py [.list [d, e]] (.ok .none) ∧ R_together py [d, e] r))
def R_rated (py : Prop) : List D → Res → Prop := fun ds r => ∃ d, ds = [d] ∧ ((R_need_quotients py [.list [d]] (.err 2) ∧ r = .err 2) ∨ (R_need_quotients py [.list [d]] (.ok .none) ∧ R_slope_of py [d] r))
def R__law_power (py : Prop) : List D → Res → Prop := fun ds r => ∃ (f : List Rat) (m n : Nat), ds = [rowD f, .int n] ∧ 1 ≤ f.length ∧ f.length ≤ 40 ∧ n ≤ 100 ∧ (f.length - 1) * n ≤ 30 ∧ Sr m f ∧ Lim py (2 * (1 + (m + 5) * n + m) + 20) ∧ r = .ok (rowD (powR f n))
def R__law_minus (py : Prop) : List D → Res → Prop := fun ds r => ∃ (p q : List Rat) (m n : Nat), ds = [rowD p, rowD q] ∧ Az m p ∧ Az n q ∧ 0 < m ∧ Lim py (m + n + 2) ∧ p.length ≤ 1000 ∧ q.length ≤ 1000 ∧ r = .ok (rowD (trim (addL p (trim (sclL (-1) q)))))
def w_need_quotients (Ex : Nat → Prop) (py : Prop) : DS :=
  (wFor (iLst (eVar 0)) (dName 1)
  (wIf (tNotD (tBl (eCall Ex (R_is_quotient py) (aCons (eVar 1) aNil))))
  (wRaise Ex 2)
  wNext))

def w_together (Ex : Nat → Prop) (py : Prop) : DS :=
  (wSeq (wSet 2 (eCall Ex (R_add py) (aCons (eCall Ex (R_multiply py) (aCons (eOp dIx (eVar 0) (eC (.int 0))) (aCons (eOp dIx (eVar 1) (eC (.int 1))) aNil))) (aCons (eCall Ex (R_multiply py) (aCons (eOp dIx (eVar 1) (eC (.int 0))) (aCons (eOp dIx (eVar 0) (eC (.int 1))) aNil))) aNil))))
  (wRet (eCall Ex (R_lowest py) (aCons (eVar 2) (aCons (eCall Ex (R_multiply py) (aCons (eOp dIx (eVar 0) (eC (.int 1))) (aCons (eOp dIx (eVar 1) (eC (.int 1))) aNil))) aNil)))))

def w_slope_of (Ex : Nat → Prop) (py : Prop) : DS :=
  (wSeq (wSet 1 (eCall Ex (R_scale py) (aCons (eCall Ex (R_multiply py) (aCons (eOp dIx (eVar 0) (eC (.int 0))) (aCons (eCall Ex (R_slope py) (aCons (eOp dIx (eVar 0) (eC (.int 1))) aNil)) aNil))) (aCons (eC c_MINUS) aNil))))
  (wRet (eCall Ex (R_lowest py) (aCons (eCall Ex (R_add py) (aCons (eCall Ex (R_multiply py) (aCons (eCall Ex (R_slope py) (aCons (eOp dIx (eVar 0) (eC (.int 0))) aNil)) (aCons (eOp dIx (eVar 0) (eC (.int 1))) aNil))) (aCons (eVar 1) aNil))) (aCons (eCall Ex (R_multiply py) (aCons (eOp dIx (eVar 0) (eC (.int 1))) (aCons (eOp dIx (eVar 0) (eC (.int 1))) aNil))) aNil)))))

def w_joined (Ex : Nat → Prop) (py : Prop) : DS :=
  (wSeq (wExpr (eCall Ex (R_need_quotients py) (aCons (eLst (aCons (eVar 0) (aCons (eVar 1) aNil))) aNil)))
  (wRet (eCall Ex (R_together py) (aCons (eVar 0) (aCons (eVar 1) aNil)))))

def w_rated (Ex : Nat → Prop) (py : Prop) : DS :=
  (wSeq (wExpr (eCall Ex (R_need_quotients py) (aCons (eLst (aCons (eVar 0) aNil)) aNil)))
  (wRet (eCall Ex (R_slope_of py) (aCons (eVar 0) aNil))))

def w__law_power (Ex : Nat → Prop) (py : Prop) : DS :=
  (wSeq (wSet 2 (eTup (aCons (eTup (aCons (eC (.int 1)) (aCons (eC (.int 1)) aNil))) aNil)))
  (wSeq (wFor (iR1 (aCons (eVar 1) aNil)) (dName 3)
  (wSet 2 (eCall Ex (R__law_times py) (aCons (eVar 2) (aCons (eVar 0) aNil)))))
  (wRet (eVar 2))))

def w__law_minus (Ex : Nat → Prop) (py : Prop) : DS :=
  (wRet (eCall Ex (R__law_plus py) (aCons (eVar 0) (aCons (eCall Ex (R__law_scale py) (aCons (eVar 1) (aCons (eTup (aCons (eNeg (eC (.int 1))) (aCons (eC (.int 1)) aNil))) aNil))) aNil))))

theorem pure_need_quotients (py : Prop) (ds : List D) (r : Res) (h : R_need_quotients py ds r) : w_need_quotients (fun g => r = .err g) py (endsOf r) (startΓ ["things", "thing"] ds) := by
  obtain ⟨xs, rfl, h⟩ := h
  unfold w_need_quotients
  show wForL _ _ _ xs _
  rcases h with ⟨hall, rfl⟩ | ⟨pre, d, post, rfl, hpre, hd0, rfl⟩
  · refine for_inv (fun (i : Nat) (Γ : Ct) => ∃ e, Γ = [.im (.list xs), e]) (fun i d nx' Γ hd hn' hI => ?_) (fun Γ hI => ?_) ⟨_, rfl⟩
    · obtain ⟨e, rfl⟩ := hI
      walk_at "dl"
      exact call_ok (hall d (List.mem_of_getElem? hd)) (hn' _ ⟨_, rfl⟩)
    · obtain ⟨e, rfl⟩ := hI
      rfl
  · refine for_inv (fun (i : Nat) (Γ : Ct) => i ≤ pre.length ∧ ∃ e, Γ = [.im (.list (pre ++ d :: post)), e]) (fun i d' nx' Γ hd hn' hI => ?_) (fun Γ hI => ?_) ⟨Nat.zero_le _, _, rfl⟩
    · obtain ⟨hi, e, rfl⟩ := hI
      walk_at "dl"
      rcases Nat.lt_or_ge i pre.length with h1 | h1
      · rw [List.getElem?_append_left h1] at hd
        exact call_ok (hpre d' (List.mem_of_getElem? hd)) (hn' _ ⟨h1, _, rfl⟩)
      · have : i = pre.length := by omega
        subst this
        rw [List.getElem?_append_right (Nat.le_refl _), Nat.sub_self] at hd
        cases hd
        exact call_ok hd0 trivial
    · obtain ⟨hi, e, rfl⟩ := hI
      rw [List.length_append, List.length_cons] at hi
      omega
theorem gB_lo (m L : Nat) : 10 * m + 150 ≤ gB m L := by
  rw [gB_eq]
  have := le_zB m L
  omega
theorem mulR_ne {p q : List Rat} (hp : IsRow p) (hq : IsRow q) (p0 : p ≠ []) (q0 : q ≠ []) : trim (mulL p q) ≠ [] := fun z => by
  have h := mul_row_len hp hq p0 q0
  have l1 := List.length_pos_iff.mpr p0
  have l2 := List.length_pos_iff.mpr q0
  rw [z] at h
  have : 0 + 1 = p.length + q.length := h
  omega
theorem pure_together (py : Prop) (ds : List D) (r : Res) (h : R_together py ds r) : w_together (fun g => r = .err g) py (endsOf r) (startΓ ["one", "other", "top"] ds) := by
  obtain ⟨p1, q1, p2, q2, m, L, rfl, r1, r2, n1, n2, s1, s2, s3, s4, l1, l2, l3, hL, hl, rfl⟩ := h
  have lo := gB_lo (4 * m + 11) L
  have lz := le_zB (4 * m + 11) L
  have hm := sr_pos s1
  have m1 := mulR_len p1 q2
  have m2 := mulR_len p2 q1
  have m3 := mulR_len q1 q2
  have t1 : Sr (2 * m + 5) (trim (mulL p1 q2)) := ((s1.mul s4 (k := 5) (by omega)).trim).up (by omega)
  have t2 : Sr (2 * m + 5) (trim (mulL p2 q1)) := ((s3.mul s2 (k := 5) (by omega)).trim).up (by omega)
  have t3 : Sr (2 * m + 5) (trim (mulL q1 q2)) := ((s2.mul s4 (k := 5) (by omega)).trim).up (by omega)
  have t4 : Sr (4 * m + 11) (toP p1 q1 p2 q2) := ((t1.add t2).trim).up (by omega)
  have m4 : (toP p1 q1 p2 q2).length ≤ L := by
    refine Nat.le_trans (trim_len _) ?_
    rw [addL_len]
    omega
  unfold w_together
  refine seq_go fun nx hnx => ?_
  walk_at "dl"
  refine call_ok ⟨p1, q2, m, m, rfl, s1, s4, hl.low (by omega), by omega, by omega, rfl⟩ ?_
  refine call_ok ⟨p2, q1, m, m, rfl, s3, s2, hl.low (by omega), by omega, by omega, rfl⟩ ?_
  refine call_ok ⟨_, _, _, _, rfl, t1.az, t2.az, by omega, hl.low (by omega), by omega, by omega, rfl⟩ (hnx _ ?_)
  walk_at "dl"
  refine call_ok ⟨q1, q2, m, m, rfl, s2, s4, hl.low (by omega), by omega, by omega, rfl⟩ ?_
  exact call_ok ⟨toP p1 q1 p2 q2, trim (mulL q1 q2), 4 * m + 11, L, rfl, row_trim _, row_trim _, mulR_ne r1 r2 n1 n2, m4, by omega, hL, t4, t3.up (by omega), hl, rfl⟩ rfl
theorem pure_slope_of (py : Prop) (ds : List D) (r : Res) (h : R_slope_of py ds r) : w_slope_of (fun g => r = .err g) py (endsOf r) (startΓ ["one", "less"] ds) := by
  obtain ⟨p, q, m, L, rfl, rq, q0, s1, s2, l1, l2, hL, hl, rfl⟩ := h
  have lo := gB_lo (4 * m + 33) L
  have lz := le_zB (4 * m + 33) L
  have hm := sr_pos s1
  have k1 := slR_len p
  have k2 := slR_len q
  have m1 := mulR_len p (slR q)
  have m2 := mulR_len (slR p) q
  have m3 := mulR_len q q
  have t1 : Sr (2 * m + 10) (trim (mulL p (slR q))) := ((s1.mul (slR_sr s2 (by omega)) (k := 5) (by omega)).trim).up (by omega)
  have t2 : Sr (2 * m + 10) (trim (mulL (slR p) q)) := (((slR_sr s1 (by omega)).mul s2 (k := 5) (by omega)).trim).up (by omega)
  have t3 : Sr (2 * m + 5) (trim (mulL q q)) := ((s2.mul s2 (k := 5) (by omega)).trim).up (by omega)
  have t5 : Sr (2 * m + 11) (trim (sclL (-1) (trim (mulL p (slR q))))) := ((t1.scl sz_m1).trim).up (by omega)
  have m5 := trim_len (sclL (-1) (trim (mulL p (slR q))))
  rw [sclL_len] at m5
  have t4 : Sr (4 * m + 33) (slT p q) := ((t2.add t5).trim).up (by omega)
  have m4 : (slT p q).length ≤ L := by
    refine Nat.le_trans (trim_len _) ?_
    rw [addL_len]
    omega
  unfold w_slope_of
  refine seq_go fun nx hnx => ?_
  rw [minus_fr]
  walk_at "dl"
  refine call_ok ⟨q, m, rfl, s2.az, hl.low (by omega), by omega, rfl⟩ ?_
  refine call_ok ⟨p, slR q, m, m + 5, rfl, s1, slR_sr s2 (by omega), hl.low (by omega), by omega, by omega, rfl⟩ ?_
  refine call_ok ⟨trim (mulL p (slR q)), -1, 2 * m + 10, 1, rfl, t1.az, sz_m1, hl.low (by omega), by omega, rfl⟩ (hnx _ ?_)
  walk_at "dl"
  refine call_ok ⟨p, m, rfl, s1.az, hl.low (by omega), by omega, rfl⟩ ?_
  refine call_ok ⟨slR p, q, m + 5, m, rfl, slR_sr s1 (by omega), s2, hl.low (by omega), by omega, by omega, rfl⟩ ?_
  refine call_ok ⟨_, _, _, _, rfl, t2.az, t5.az, by omega, hl.low (by omega), by omega, by omega, rfl⟩ ?_
  refine call_ok ⟨q, q, m, m, rfl, s2, s2, hl.low (by omega), by omega, by omega, rfl⟩ ?_
  exact call_ok ⟨slT p q, trim (mulL q q), 4 * m + 33, L, rfl, row_trim _, row_trim _, mulR_ne rq rq q0 q0, m4, by omega, hL, t4, t3.up (by omega), hl, rfl⟩ rfl
theorem pure_joined (py : Prop) (ds : List D) (r : Res) (h : R_joined py ds r) : w_joined (fun g => r = .err g) py (endsOf r) (startΓ ["one", "other"] ds) := by
  obtain ⟨d, e, rfl, h⟩ := h
  unfold w_joined
  refine seq_go fun nx hnx => ?_
  walk_at "dl"
  rcases h with ⟨h1, rfl⟩ | ⟨h1, h2⟩
  · exact call_err 2 h1 rfl
  · refine call_ok h1 (hnx _ ?_)
    walk_at "dl"
    refine ⟨r, h2, ?_⟩
    cases r <;> rfl
theorem pure_rated (py : Prop) (ds : List D) (r : Res) (h : R_rated py ds r) : w_rated (fun g => r = .err g) py (endsOf r) (startΓ ["one"] ds) := by
  obtain ⟨d, rfl, h⟩ := h
  unfold w_rated
  refine seq_go fun nx hnx => ?_
  walk_at "dl"
  rcases h with ⟨h1, rfl⟩ | ⟨h1, h2⟩
  · exact call_err 2 h1 rfl
  · refine call_ok h1 (hnx _ ?_)
    walk_at "dl"
    refine ⟨r, h2, ?_⟩
    cases r <;> rfl
theorem pure__law_power (py : Prop) (ds : List D) (r : Res) (h : R__law_power py ds r) : w__law_power (fun g => r = .err g) py (endsOf r) (startΓ ["_law_row", "_law_power_here", "_law_found", "_law_k"] ds) := by
  obtain ⟨f, m, n, rfl, f1, f2, n1, hd, sf, hl, rfl⟩ := h
  unfold w__law_power
  refine seq_go fun nx hnx => ?_
  walk_at "dl"
  refine hnx _ ?_
  refine seq_go fun nx hnx => ?_
  unfold wFor iR1
  walk_at "dl"
  refine ⟨inR_of (by omega) (by omega), ?_⟩
  rw [Int.toNat_natCast]
  refine for_inv (fun (k : Nat) (Γ : Ct) => k ≤ n ∧ ∃ e, Γ = [.im (rowD f), .im (.int n), .im (rowD (powR f k)), e]) (fun k d nx' Γ hd' hn' hI => ?_) (fun Γ hI => ?_) ⟨Nat.zero_le _, _, rfl⟩
  · obtain ⟨_, e, rfl⟩ := hI
    obtain ⟨hk, rfl⟩ := rngD_at hd'
    have hk2 : (f.length - 1) * k ≤ (f.length - 1) * n := Nat.mul_le_mul_left _ (by omega)
    have hk3 : (m + 5) * k ≤ (m + 5) * n := Nat.mul_le_mul_left _ (by omega)
    have sp := powR_sr f1 sf (n := k) (by omega)
    have lp := powR_len f k f1
    walk_at "dl"
    exact call_ok ⟨powR f k, f, 1 + (m + 5) * k, m, rfl, sp, sf, hl.low (by omega), by omega, by omega, rfl⟩ (hn' _ ⟨hk, _, rfl⟩)
  · obtain ⟨_, e, rfl⟩ := hI
    refine hnx _ ?_
    rw [rngD_length]
    rfl
theorem pure__law_minus (py : Prop) (ds : List D) (r : Res) (h : R__law_minus py ds r) : w__law_minus (fun g => r = .err g) py (endsOf r) (startΓ ["_law_one", "_law_other"] ds) := by
  obtain ⟨p, q, m, n, rfl, h1, h2, h3, hl, h5, h6, rfl⟩ := h
  have lt := trim_len (sclL (-1) q)
  rw [sclL_len] at lt
  unfold w__law_minus
  walk_at "dl"
  refine call_ok (R := R__law_scale py) ⟨q, -1, n, 1, rfl, h2, sz_m1, hl.low (by omega), h6, rfl⟩ ?_
  exact call_ok ⟨p, _, m, n + 1, rfl, h1, az_trim (az_scl h2 sz_m1), h3, by omega, hl.low (by omega), h5, by omega, rfl⟩ rfl
end DL

set_option linter.all false
set_option autoImplicit false
set_option maxRecDepth 10000
set_option maxHeartbeats 400000
namespace DL
open PySem PySem.Spec L2
local macro_rules | `(tactic| walk_at "dl") => `(tactic| simp -implicitDefEqProofs only [wSeq, wNext, wSet, wSetL, wAsg, wPar, parD, wRet, wExpr, wApp, wSetIx, wIf, wFrz, wRaise, wBreak, wCont, eVar, eC, eOp, tBl, dI, dB, dAdd, dSub, dMul, dFdiv, dMod, dPow, eNeg, dLt, dLe, dGt, dGe, dEq, dNe, dIs, dIsNot, eAnd, eOr, eNot, tAndD, tOrD, tNotD,
  aNil, aCons, eTup, eLst, lLst, eL, dIx, eSl, dSl, oNo, oSome, eCB, cLen, cAbs, cMax, cMin, cTuple, cList, cInt, eIsi, isiD, dName, dTupT, dCons, dNil, eCell, cellP, eIxO, eLenO, eCall, startΓ, startS, List.getElem?_cons_zero, List.getElem?_cons_succ, List.set, List.map, List.length, List.replicate, List.append, List.cons_append, List.nil_append, Nat.sub_self, Nat.reduceAdd, Nat.reduceSub, true_and, ixD_0, ixD_1, ixD_2, ixD_3, ixD_4, ixD_5, ixD_6, ixD_7, ixD_8, ixD_9, ixD_10, ixD_11, ixD_12, ixD_13, ixD_14, ixD_15, ixD_16, ixD_17, ixD_18, ixD_19])
theorem mul_monic {p q : List Rat} (hp : ∃ l, p = l ++ [1]) (hq : ∃ l, q = l ++ [1]) : ∃ l, trim (mulL p q) = l ++ [1] := by
  obtain ⟨l, rfl⟩ := hp
  obtain ⟨k, rfl⟩ := hq
  obtain ⟨R, _, h⟩ := mul_snoc l k (a := 1) (b := 1) (by decide) (by decide)
  rw [h]
  exact ⟨R, by rw [Rat.mul_one]⟩
theorem monic_row {p : List Rat} (hp : ∃ l, p = l ++ [1]) : IsRow p := by
  obtain ⟨l, rfl⟩ := hp
  exact row_snoc _ (by decide)
theorem monic_ne {p : List Rat} (hp : ∃ l, p = l ++ [1]) : p ≠ [] := by
  obtain ⟨l, rfl⟩ := hp
  simp
theorem monic_lead {p : List Rat} (hp : ∃ l, p = l ++ [1]) : lead p = 1 := by
  obtain ⟨l, rfl⟩ := hp
  exact lead_snoc l 1
theorem facL_get (x : Int) {m k : Nat} (h : k < m) : ((facL x m).map rowD)[k]? = some (rowD (facR (stream x (3 + m)) k)) := by
  unfold facL
  rw [List.getElem?_map, List.getElem?_map, List.getElem?_range h]
  rfl
theorem facR_monic (xs : List Int) (k : Nat) : ∃ l, facR xs k = l ++ [1] := by
  unfold facR
  split
  · exact ⟨[_, _], rfl⟩
  · split
    · exact ⟨[_, _, _], rfl⟩
    · exact ⟨[_], rfl⟩
theorem eqv_nil (p : List Rat) : PyData.eqv (rowD p) (.tuple []) = decide (p = []) := by rw [show PyData.tuple [] = rowD [] from rfl, eqv_row]
/-- a row of a law's, of those that share nothing -/
structure Fac (f : List Rat) : Prop where
  m : ∃ l, f = l ++ [1]
  s : Sr 23 f
  l2 : 2 ≤ f.length
  l4 : f.length ≤ 4
theorem facR_fac (xs : List Int) (k : Nat) (hk : k < 10) : Fac (facR xs k) := ⟨facR_monic xs k, fac_sr2 xs k hk, (facR_len xs k).1, (facR_len xs k).2⟩
theorem facL_fac (x : Int) (m : Nat) (hm : m ≤ 10) : ∀ f ∈ facL x m, Fac f := fun f hf => by
  unfold facL at hf
  obtain ⟨k, hk, rfl⟩ := List.mem_map.mp hf
  exact facR_fac _ k (by have := List.mem_range.mp hk; omega)
theorem facL_len (x : Int) (m : Nat) : (facL x m).length = m := by unfold facL; rw [List.length_map, List.length_range]
/-- a quotient of the size of a law's own, from rows of m bits and L places -/
structure Qo (m L : Nat) (p q : List Rat) : Prop where
  rp : IsRow p
  rq : IsRow q
  q0 : q ≠ []
  lp : p.length ≤ L
  lq : q.length ≤ L
  sp : Sr m p
  sq : Sr m q
theorem Qo.isq {py : Prop} {m L : Nat} {p q : List Rat} (h : Qo m L p q) (hL : L ≤ 31) (hl : Lim py (gB (zB m (2 * L)) L)) : R_is_quotient py [loD p q] (.ok (.bool true)) := by
  have F := low_facts h.rp h.rq h.q0
  obtain ⟨z1, z2⟩ := lowT_sz (m := m) (L := L) h.rp h.rq h.q0 h.lp h.lq hL h.sp h.sq
  have l1 := F.l1
  have l2 := F.l2
  have := h.lp
  have := h.lq
  exact ⟨_, rfl, .inr (.inr ⟨(lowT p q).1, (lowT p q).2, zB m (2 * L), L, rfl, F.r1, F.r2, monic_ne F.led, monic_lead F.led, by omega, by omega, hL, z1, z2, hl, by rw [decide_eq_true F.one]⟩)⟩
theorem Qo.low {m m' L L' : Nat} {p q p' q' : List Rat} (h : Qo m L p q) (h' : Qo m' L' p' q') (e : ∀ x, ev p x * ev q' x = ev p' x * ev q x) : lowT p q = lowT p' q' := low_uniq h.rp h.rq h.q0 h'.rp h'.rq h'.q0 e
end DL

set_option linter.all false
set_option autoImplicit false
namespace DL
/-! ### rows that none but 1 and they themselves divide -/
def Mon (p : List Rat) : Prop := ∃ l, p = l ++ [1]
theorem Mon.row {p : List Rat} (h : Mon p) : IsRow p := by obtain ⟨l, rfl⟩ := h; exact row_snoc _ (by decide)
theorem Mon.ne {p : List Rat} (h : Mon p) : p ≠ [] := by obtain ⟨l, rfl⟩ := h; simp
theorem Mon.pos {p : List Rat} (h : Mon p) : 1 ≤ p.length := List.length_pos_iff.mpr h.ne
theorem Mon.one : Mon [1] := ⟨[], rfl⟩
theorem Mon.lead {p : List Rat} (h : Mon p) : lead p = 1 := by obtain ⟨l, rfl⟩ := h; exact lead_snoc l 1
theorem Mon.mul {p q : List Rat} (hp : Mon p) (hq : Mon q) : Mon (trim (mulL p q)) := by
  obtain ⟨l, rfl⟩ := hp
  obtain ⟨k, rfl⟩ := hq
  obtain ⟨R, _, h⟩ := mul_snoc l k (a := 1) (b := 1) (by decide) (by decide)
  rw [h]
  exact ⟨R, by rw [Rat.mul_one]⟩
theorem mon_led {l : List Rat} (h : IsRow l) (h0 : l ≠ []) : Mon (ledR l) := let ⟨L, e, _⟩ := ledR_eq h h0; ⟨L, e⟩
theorem mon_gcd {p q : List Rat} (hp : IsRow p) (hq : IsRow q) (h : p ≠ [] ∨ q ≠ []) : Mon (gcd p q) := (shT_facts hp hq).led h
theorem mon_one {p : List Rat} (h : Mon p) (hl : p.length ≤ 1) : p = [1] := by
  obtain ⟨l, rfl⟩ := h
  rw [List.length_append] at hl
  have : l.length + 1 ≤ 1 := hl
  rw [List.length_eq_zero_iff.mp (show l.length = 0 by omega)]
  rfl
theorem Dvd.trans {a b c : List Rat} (h : Dvd a b) (g : Dvd b c) : Dvd a c := by
  obtain ⟨u, hu⟩ := h
  obtain ⟨v, hv⟩ := g
  exact ⟨mulL v u, fun x => by rw [hv, hu, ev_mul]; grind⟩
theorem Dvd.len {a b : List Rat} (ha : IsRow a) (hb : IsRow b) (b0 : b ≠ []) (h : Dvd a b) : a ≠ [] ∧ a.length ≤ b.length := by
  obtain ⟨u, hu⟩ := h
  obtain ⟨u0, a0, hl⟩ := cof_len hb ha (row_trim u) b0 (fun x => by rw [ev_trim]; exact hu x)
  have := List.length_pos_iff.mpr u0
  exact ⟨a0, by omega⟩
theorem Dvd.same {a b : List Rat} (ha : Mon a) (hb : Mon b) (h : Dvd a b) (hl : b.length ≤ a.length) : a = b := by
  obtain ⟨u, hu⟩ := h
  have hu' : ∀ x, ev b x = ev (trim u) x * ev a x := fun x => by rw [ev_trim]; exact hu x
  obtain ⟨c, c0, hc⟩ := mul_const (row_trim u) ha.row hb.row ha.ne hb.ne hu' hl
  refine monic_uniq ha hb ⟨u, hu⟩ ⟨[1 / c], fun x => ?_⟩
  have h2 := hu' x
  rw [hc, ev_cons, ev_nil] at h2
  rw [h2, ev_cons, ev_nil]
  grind
theorem Dvd.scl {a b : List Rat} {c : Rat} (h : Dvd a b) : Dvd a (sclL c b) := by
  obtain ⟨u, hu⟩ := h
  exact ⟨sclL c u, fun x => by rw [ev_scl, ev_scl, hu]; grind⟩
theorem dvd_ext {a b c : List Rat} (e : ∀ x, ev b x = ev c x) (h : Dvd a b) : Dvd a c := by
  obtain ⟨u, hu⟩ := h
  exact ⟨u, fun x => by rw [← e]; exact hu x⟩
theorem dvd_led {a b : List Rat} (hb : IsRow b) (h : Dvd a (ledR b)) : Dvd a b := by
  rcases Classical.em (b = []) with rfl | b0
  · exact .nil a
  · have := lead_ne hb b0
    exact dvd_ext (fun x => by rw [ev_scl, ev_ledR]; grind) (h.scl (c := lead b))
theorem dvd_one (b : List Rat) : Dvd [1] b := ⟨b, fun x => by rw [ev_cons, ev_nil]; grind⟩
structure Irr (p : List Rat) : Prop where
  m : Mon p
  l : 2 ≤ p.length
  p : ∀ d, Mon d → Dvd d p → d = [1] ∨ d = p
theorem irr_ex : ∀ (n : Nat) (q : List Rat), q.length ≤ n → IsRow q → 2 ≤ q.length → ∃ p, Irr p ∧ Dvd p q
  | 0, q, h, _, h2 => by omega
  | n + 1, q, h, hq, h2 => by
    have q0 : q ≠ [] := fun z => by rw [z] at h2; exact absurd h2 (by decide)
    have ml := mon_led hq q0
    have ll := ledR_len hq
    rcases Classical.em (∃ d, Mon d ∧ Dvd d (ledR q) ∧ d ≠ [1] ∧ d ≠ ledR q) with ⟨d, md, dd, d1, dq⟩ | hno
    · have l1 := (dd.len md.row ml.row ml.ne).2
      have l2 : d.length ≠ (ledR q).length := fun e => dq (dd.same md ml (by omega))
      have l3 : 2 ≤ d.length := by
        have := md.pos
        rcases Nat.lt_or_ge 1 d.length with h | h
        · exact h
        · exact absurd (mon_one md h) d1
      obtain ⟨p, ip, dp⟩ := irr_ex n d (by omega) md.row l3
      exact ⟨p, ip, dvd_led hq (dp.trans dd)⟩
    · refine ⟨ledR q, ⟨ml, by omega, fun d md dd => ?_⟩, dvd_led hq (.refl _)⟩
      rcases Classical.em (d = [1]) with h | h
      · exact .inl h
      · rcases Classical.em (d = ledR q) with h2 | h2
        · exact .inr h2
        · exact absurd ⟨d, md, dd, h, h2⟩ hno
theorem Irr.cases {p q : List Rat} (h : Irr p) (hq : IsRow q) : gcd p q = [1] ∨ Dvd p q := by
  have F := shT_facts h.m.row hq
  have mg := mon_gcd h.m.row hq (.inl h.m.ne)
  rcases h.p _ mg F.dp with e | e
  · exact .inl e
  · have dq := F.dq
    have e : (shT p q).1 = p := e
    rw [e] at dq
    exact .inr dq
theorem Irr.prime {p a b c : List Rat} (h : Irr p) (ha : IsRow a) (hc : ∀ x, ev c x = ev a x * ev b x) (hd : Dvd p c) : Dvd p a ∨ Dvd p b := by
  rcases h.cases ha with e | e
  · obtain ⟨s, t, _, _, hb⟩ := bez_one h.m.row ha e
    obtain ⟨u, hu⟩ := hd
    refine .inr ⟨addL (mulL s b) (mulL t u), fun x => ?_⟩
    have h1 := hb x
    have h2 := hu x
    rw [hc] at h2
    rw [ev_add, ev_mul, ev_mul]
    have : ev b x = ev b x * (ev s x * ev p x + ev t x * ev a x) := by rw [h1]; grind
    rw [this]
    grind
  · exact .inl e
/-! how often -/
def Vl (p q : List Rat) (k : Nat) : Prop := ∃ u, IsRow u ∧ ¬ Dvd p u ∧ ∀ x, ev q x = ev p x ^ k * ev u x
theorem vl_ex {p : List Rat} (h : Irr p) : ∀ (n : Nat) (q : List Rat), q.length ≤ n → IsRow q → q ≠ [] → ∃ k, Vl p q k
  | 0, q, hl, _, q0 => absurd (List.length_eq_zero_iff.mp (Nat.le_zero.mp hl)) q0
  | n + 1, q, hl, hq, q0 => by
    rcases Classical.em (Dvd p q) with hd | hd
    · obtain ⟨u, hu⟩ := hd
      have hu' : ∀ x, ev q x = ev (trim u) x * ev p x := fun x => by rw [ev_trim]; exact hu x
      obtain ⟨u0, _, l⟩ := cof_len hq h.m.row (row_trim u) q0 hu'
      have := h.l
      obtain ⟨k, w, rw_, nd, e⟩ := vl_ex h n (trim u) (by omega) (row_trim u) u0
      exact ⟨k + 1, w, rw_, nd, fun x => by rw [hu', e, Rat.pow_succ]; grind⟩
    · exact ⟨0, q, hq, hd, fun x => by rw [Rat.pow_zero]; grind⟩
theorem ev_cancel2 {p a b : List Rat} (hp : IsRow p) (p0 : p ≠ []) (k : Nat) (h : ∀ x, ev p x ^ k * ev a x = ev p x ^ k * ev b x) (x : Rat) : ev a x = ev b x := by
  induction k with
  | zero =>
    have := h x
    rw [Rat.pow_zero] at this
    grind
  | succ k ih =>
    refine ih fun y => ?_
    have e := ev_cancel hp p0 (row_trim (mulL (powR p k) a)) (row_trim (mulL (powR p k) b)) fun z => by
      have := h z
      rw [Rat.pow_succ] at this
      rw [ev_trim, ev_trim, ev_mul, ev_mul, ev_powR]
      grind
    have e2 : ev (trim (mulL (powR p k) a)) y = ev (trim (mulL (powR p k) b)) y := by rw [e]
    rw [ev_trim, ev_trim, ev_mul, ev_mul, ev_powR] at e2
    exact e2
theorem vl_lt {p q : List Rat} (h : Irr p) {j k : Nat} (hj : Vl p q j) (hk : Vl p q k) : ¬ j < k := fun hlt => by
  obtain ⟨u, ru, nu, eu⟩ := hj
  obtain ⟨w, rw_, nw, ew⟩ := hk
  obtain ⟨d, rfl⟩ : ∃ d, k = j + (d + 1) := ⟨k - j - 1, by omega⟩
  refine nu ⟨mulL (powR p d) w, fun x => ?_⟩
  rw [ev_mul, ev_powR]
  have := ev_cancel2 h.m.row h.m.ne j (a := u) (b := mulL (powR p (d + 1)) w) (fun y => by
    rw [← eu, ew, ev_mul, ev_powR, rpow_add]; grind) x
  rw [this, ev_mul, ev_powR, Rat.pow_succ]
  grind
theorem vl_uniq {p q : List Rat} (h : Irr p) {j k : Nat} (hj : Vl p q j) (hk : Vl p q k) : j = k := by
  have := vl_lt h hj hk
  have := vl_lt h hk hj
  omega
open Classical in
noncomputable def vp (p q : List Rat) : Nat := if h : ∃ k, Vl p q k then Classical.choose h else 0
theorem vp_spec {p q : List Rat} (h : Irr p) (hq : IsRow q) (q0 : q ≠ []) : Vl p q (vp p q) := by
  have e := vl_ex h q.length q (Nat.le_refl _) hq q0
  unfold vp
  rw [dif_pos e]
  exact Classical.choose_spec e
theorem vp_eq {p q : List Rat} (h : Irr p) {k : Nat} (hk : Vl p q k) : vp p q = k := by
  have e : ∃ k, Vl p q k := ⟨k, hk⟩
  unfold vp
  rw [dif_pos e]
  exact vl_uniq h (Classical.choose_spec e) hk
theorem vp_mul {p a b c : List Rat} (h : Irr p) (ha : IsRow a) (hb : IsRow b) (a0 : a ≠ []) (b0 : b ≠ []) (e : ∀ x, ev c x = ev a x * ev b x) : vp p c = vp p a + vp p b := by
  obtain ⟨u, ru, nu, eu⟩ := vp_spec h ha a0
  obtain ⟨w, rw_, nw, ew⟩ := vp_spec h hb b0
  refine vp_eq h ⟨trim (mulL u w), row_trim _, fun hd => ?_, fun x => ?_⟩
  · rcases h.prime (b := w) ru (fun x => by rw [ev_trim, ev_mul]) hd with z | z
    · exact nu z
    · exact nw z
  · rw [e, eu, ew, ev_trim, ev_mul, rpow_add]; grind
theorem vp_pos {p q : List Rat} (h : Irr p) (hq : IsRow q) (q0 : q ≠ []) : 1 ≤ vp p q ↔ Dvd p q := by
  constructor
  · intro hv
    obtain ⟨u, ru, nu, eu⟩ := vp_spec h hq q0
    obtain ⟨d, hd⟩ : ∃ d, vp p q = d + 1 := ⟨vp p q - 1, by omega⟩
    rw [hd] at eu
    exact ⟨mulL (powR p d) u, fun x => by rw [eu, ev_mul, ev_powR, Rat.pow_succ]; grind⟩
  · intro hd
    rcases Nat.eq_zero_or_pos (vp p q) with z | z
    · obtain ⟨u, ru, nu, eu⟩ := vp_spec h hq q0
      rw [z] at eu
      exact absurd (dvd_ext (fun x => by rw [eu, Rat.pow_zero]; grind) hd) nu
    · exact z
theorem vp_ext {p a b : List Rat} (h : Irr p) (ha : IsRow a) (a0 : a ≠ []) (e : ∀ x, ev b x = ev a x) : vp p b = vp p a := by
  obtain ⟨u, ru, nu, eu⟩ := vp_spec h ha a0
  exact vp_eq h ⟨u, ru, nu, fun x => by rw [e]; exact eu x⟩
theorem vp_scl {p a b : List Rat} {c : Rat} (h : Irr p) (hc : c ≠ 0) (ha : IsRow a) (a0 : a ≠ []) (e : ∀ x, ev b x = ev a x * c) : vp p b = vp p a := by
  obtain ⟨u, ru, nu, eu⟩ := vp_spec h ha a0
  refine vp_eq h ⟨sclL c u, scl_row hc ru, fun hd => nu ?_, fun x => by rw [e, eu, ev_scl]; grind⟩
  exact dvd_ext (fun x => by rw [ev_scl, ev_scl]; grind) (hd.scl (c := 1 / c))
theorem vp_dvd {p a b : List Rat} (h : Irr p) (ha : IsRow a) (hb : IsRow b) (b0 : b ≠ []) (hd : Dvd a b) : vp p a ≤ vp p b := by
  obtain ⟨u, hu⟩ := hd
  have hu' : ∀ x, ev b x = ev (trim u) x * ev a x := fun x => by rw [ev_trim]; exact hu x
  obtain ⟨u0, a0, _⟩ := cof_len hb ha (row_trim u) b0 hu'
  rw [vp_mul h (row_trim u) ha u0 a0 hu']
  omega
theorem vp_const {p a : List Rat} (h : Irr p) (ha : IsRow a) (a0 : a ≠ []) (hl : a.length ≤ 1) : vp p a = 0 := by
  rcases Nat.eq_zero_or_pos (vp p a) with z | z
  · exact z
  · have := ((vp_pos h ha a0).mp z).len h.m.row ha a0
    have := h.l
    omega
theorem dvd_of_vp : ∀ (n : Nat) (a b : List Rat), a.length ≤ n → IsRow a → IsRow b → a ≠ [] → b ≠ [] → (∀ p, Irr p → vp p a ≤ vp p b) → Dvd a b
  | 0, a, b, hl, _, _, a0, _, _ => absurd (List.length_eq_zero_iff.mp (Nat.le_zero.mp hl)) a0
  | n + 1, a, b, hl, ha, hb, a0, b0, hv => by
    rcases Nat.lt_or_ge a.length 2 with h2 | h2
    · have : a.length = 1 := by have := List.length_pos_iff.mpr a0; omega
      obtain ⟨c, rfl⟩ := List.length_eq_one_iff.mp this
      have c0 : c ≠ 0 := by
        have h : IsRow ([] ++ [c]) := ha
        exact snoc_row h
      exact ⟨sclL (1 / c) b, fun x => by rw [ev_scl, ev_cons, ev_nil]; grind⟩
    · obtain ⟨p, ip, dp⟩ := irr_ex a.length a (Nat.le_refl _) ha h2
      have v1 := (vp_pos ip ha a0).mpr dp
      have db := (vp_pos ip hb b0).mp (Nat.le_trans v1 (hv p ip))
      obtain ⟨ru, hu⟩ := quo_dvd ha ip.m.row ip.m.ne dp
      obtain ⟨rw_, hw⟩ := quo_dvd hb ip.m.row ip.m.ne db
      obtain ⟨u0, _, lu⟩ := cof_len ha ip.m.row ru a0 hu
      obtain ⟨w0, _, _⟩ := cof_len hb ip.m.row rw_ b0 hw
      have lp := ip.l
      obtain ⟨z, hz⟩ := dvd_of_vp n (quo a p) (quo b p) (by omega) ru rw_ u0 w0 fun q iq => by
        have h1 := vp_mul iq ru ip.m.row u0 ip.m.ne hu
        have h2 := vp_mul iq rw_ ip.m.row w0 ip.m.ne hw
        have h3 := hv q iq
        omega
      exact ⟨z, fun x => by rw [hw, hz, hu]; grind⟩
theorem mon_ext {a b : List Rat} (ha : Mon a) (hb : Mon b) (h : ∀ p, Irr p → vp p a = vp p b) : a = b :=
  monic_uniq ha hb (dvd_of_vp a.length a b (Nat.le_refl _) ha.row hb.row ha.ne hb.ne fun p ip => Nat.le_of_eq (h p ip)) (dvd_of_vp b.length b a (Nat.le_refl _) hb.row ha.row hb.ne ha.ne fun p ip => Nat.le_of_eq (h p ip).symm)
theorem powR_mon {p : List Rat} (hp : Mon p) (n : Nat) : Mon (powR p n) := powR_monic hp n
theorem vp_pow {p a : List Rat} (h : Irr p) (ha : Mon a) (n : Nat) : vp p (powR a n) = n * vp p a := by
  induction n with
  | zero => rw [Nat.zero_mul]; exact vp_const (a := [1]) h row_one1 (by decide) (by decide)
  | succ n ih =>
    rw [Nat.succ_mul, ← ih]
    exact vp_mul h (powR_row a n) ha.row (powR_mon ha n).ne ha.ne fun x => by show ev (trim _) x = _; rw [ev_trim, ev_mul]
theorem vp_self {p : List Rat} (h : Irr p) : vp p p = 1 := vp_eq h ⟨[1], row_one1, fun hd => by
  have := hd.len h.m.row row_one1 (by decide)
  have l := h.l
  have : p.length ≤ 1 := this.2
  omega, fun x => by rw [ev_cons, ev_nil, Rat.pow_succ, Rat.pow_zero]; grind⟩
theorem vp_other {p q : List Rat} (h : Irr p) (hq : Irr q) (hne : p ≠ q) : vp p q = 0 := by
  rcases Nat.eq_zero_or_pos (vp p q) with z | z
  · exact z
  · rcases hq.p p h.m ((vp_pos h hq.m.row hq.m.ne).mp z) with e | e
    · have := h.l; rw [e] at this; exact absurd this (by decide)
    · exact absurd e hne
theorem vp_gcd {p a b : List Rat} (h : Irr p) (ha : IsRow a) (hb : IsRow b) (a0 : a ≠ []) (b0 : b ≠ []) : vp p (gcd a b) = min (vp p a) (vp p b) := by
  have F := shT_facts ha hb
  have mg := mon_gcd ha hb (.inl a0)
  have h1 := vp_dvd h mg.row ha a0 F.dp
  have h2 := vp_dvd h mg.row hb b0 F.dq
  have pm := powR_mon h.m (min (vp p a) (vp p b))
  have vpw : vp p (powR p (min (vp p a) (vp p b))) = min (vp p a) (vp p b) := by rw [vp_pow h h.m, vp_self h, Nat.mul_one]
  have dv : ∀ c : List Rat, IsRow c → c ≠ [] → min (vp p a) (vp p b) ≤ vp p c → Dvd (powR p (min (vp p a) (vp p b))) c := fun c hc c0 hle => by
    obtain ⟨u, ru, nu, eu⟩ := vp_spec h hc c0
    obtain ⟨d, hd⟩ : ∃ d, vp p c = d + min (vp p a) (vp p b) := ⟨vp p c - min (vp p a) (vp p b), by omega⟩
    rw [hd] at eu
    exact ⟨mulL (powR p d) u, fun x => by rw [eu, ev_mul, ev_powR, ev_powR, rpow_add]; grind⟩
  have h3 := vp_dvd h pm.row mg.row mg.ne (dvd_comb (dv a ha a0 (Nat.min_le_left _ _)) (dv b hb b0 (Nat.min_le_right _ _)) F.eq)
  rw [vpw] at h3
  show _ = _
  have e : gcd a b = (shT a b).1 := rfl
  omega
theorem gcd_vp_one {a b : List Rat} (ha : IsRow a) (hb : IsRow b) (a0 : a ≠ []) (b0 : b ≠ []) (h : ∀ p, Irr p → vp p a = 0 ∨ vp p b = 0) : gcd a b = [1] :=
  mon_ext (mon_gcd ha hb (.inl a0)) Mon.one fun p ip => by
    rw [vp_gcd ip ha hb a0 b0, vp_const ip row_one1 (by decide) (by decide)]
    rcases h p ip with e | e <;> omega
/-! the rate -/
theorem dR_len (l : List Rat) : (trim (dR l)).length ≤ l.length - 1 := by
  refine trim_short _ _ fun d hd => ?_
  suffices z : ∀ l : List Rat, (dR l).length ≤ l.length - 1 ∨ True ∧ ∀ d, l.length - 1 ≤ d → (dR l).getD d 0 = 0 from by
    rcases z l with h | h
    · exact getD_short (Nat.le_trans h hd)
    · exact h.2 d hd
  intro l
  refine .inr ⟨trivial, ?_⟩
  induction l with
  | nil => intro d _; rfl
  | cons a l ih =>
    intro d hd
    rw [dR, getD_addL]
    have hd : l.length ≤ d := hd
    rw [getD_short hd]
    cases d with
    | zero =>
      rw [Rat.zero_add]; rfl
    | succ d =>
      rw [Rat.zero_add]
      exact ih d (by omega)
theorem lead_dR (l : List Rat) (a : Rat) : (dR (l ++ [a])).getD (l.length - 1) 0 = (l.length : Rat) * a ∨ l = [] := by
  cases l with
  | nil => exact .inr rfl
  | cons b l =>
    refine .inl ?_
    induction l generalizing b with
    | nil =>
      show (addL [a] (0 :: dR [a])).getD 0 0 = ((1 : Nat) : Rat) * a
      rw [getD_addL]
      show a + 0 = ((1 : Nat) : Rat) * a
      have : ((1 : Nat) : Rat) = 1 := rfl
      rw [this]; grind
    | cons c l ih =>
      have h := ih c
      show (addL (c :: l ++ [a]) (0 :: dR (c :: l ++ [a]))).getD (l.length + 1) 0 = ((l.length + 1 + 1 : Nat) : Rat) * a
      rw [getD_addL]
      have e1 : (c :: l ++ [a]).getD (l.length + 1) 0 = a := by
        rw [List.getD_eq_getElem?_getD, List.getElem?_append_right (by rw [List.length_cons]; exact Nat.le_refl _), List.length_cons, Nat.sub_self]
        rfl
      have e2 : (0 :: dR (c :: l ++ [a])).getD (l.length + 1) 0 = (dR (c :: l ++ [a])).getD l.length 0 := rfl
      have e3 : (dR (c :: l ++ [a])).getD l.length 0 = ((l.length + 1 : Nat) : Rat) * a := h
      have e4 : ((l.length + 1 + 1 : Nat) : Rat) = ((l.length + 1 : Nat) : Rat) + 1 := by rw [Rat.natCast_add]; rfl
      rw [e1, e2, e3, e4]
      grind
/-- a row of two places or more has a rate that isn't nought -/
theorem dR_ne {p : List Rat} (hp : IsRow p) (h2 : 2 ≤ p.length) : trim (dR p) ≠ [] := fun z => by
  rcases snoc_cases p with rfl | ⟨l, a, rfl⟩
  · exact absurd h2 (by decide)
  · have a0 := snoc_row hp
    have zz := trim_nil z
    rcases lead_dR l a with h | h
    · have e : (dR (l ++ [a])).getD (l.length - 1) 0 = 0 := by
        rw [List.getD_eq_getElem?_getD]
        cases e : (dR (l ++ [a]))[l.length - 1]? with
        | some b => exact zz b (List.mem_of_getElem? e)
        | none => rfl
      rw [e] at h
      have l0 : l.length ≠ 0 := by rw [List.length_append] at h2; show l.length ≠ 0; have : 2 ≤ l.length + 1 := h2; omega
      rcases Rat.mul_eq_zero.mp h.symm with h | h
      · exact l0 (Rat.natCast_inj.mp (h.trans (show (0 : Rat) = ((0 : Nat) : Rat) from rfl)))
      · exact a0 h
    · rw [h] at h2; exact absurd h2 (by show ¬ 2 ≤ 1; decide)
theorem Irr.rate {p : List Rat} (h : Irr p) : ¬ Dvd p (trim (dR p)) := fun hd => by
  have h1 := hd.len h.m.row (row_trim _) (dR_ne h.m.row h.l)
  have h2 := dR_len p
  have := h.l
  omega
theorem vp_rate {p q : List Rat} (h : Irr p) (hq : IsRow q) (q0 : q ≠ []) (hv : 1 ≤ vp p q) : trim (dR q) ≠ [] ∧ vp p (trim (dR q)) + 1 = vp p q := by
  have hd := (vp_pos h hq q0).mp hv
  have l2 := (hd.len h.m.row hq q0).2
  have hl := h.l
  have n0 := dR_ne hq (by omega)
  refine ⟨n0, ?_⟩
  obtain ⟨u, ru, nu, eu⟩ := vp_spec h hq q0
  obtain ⟨e, he⟩ : ∃ e, vp p q = e + 1 := ⟨vp p q - 1, by omega⟩
  rw [he] at eu ⊢
  have c0 : ((e + 1 : Nat) : Rat) ≠ 0 := fun z => by
    have := Rat.natCast_inj.mp (z.trans (show (0 : Rat) = ((0 : Nat) : Rat) from rfl))
    omega
  -- the rate of the power
  have pw : ∀ (n : Nat) (x : Rat), ev (dR (powR p (n + 1))) x = ((n + 1 : Nat) : Rat) * (ev p x ^ n * ev (dR p) x) := fun n => by
    induction n with
    | zero =>
      intro x
      show ev (dR (trim (mulL [1] p))) x = _
      rw [ev_dR_trim, ev_dR_mul, ev_cons, ev_nil, ev_dR_cons, ev_nil, Rat.pow_zero]
      have : ((0 + 1 : Nat) : Rat) = 1 := rfl
      have e0 : ev (dR []) x = 0 := rfl
      rw [this, e0]; grind
    | succ n ih =>
      intro x
      show ev (dR (trim (mulL (powR p (n + 1)) p))) x = _
      rw [ev_dR_trim, ev_dR_mul, ih, ev_powR]
      have e4 : ((n + 1 + 1 : Nat) : Rat) = ((n + 1 : Nat) : Rat) + 1 := by rw [Rat.natCast_add]; rfl
      rw [e4, Rat.pow_succ]
      grind
  have er : ∀ x, ev (trim (dR q)) x = ev p x ^ e * ev (trim (addL (sclL ((e + 1 : Nat) : Rat) (mulL (dR p) u)) (mulL p (dR u)))) x := fun x => by
    have h1 : ev (dR q) x = ev (dR (mulL (powR p (e + 1)) u)) x := dR_ext (fun y => by rw [ev_mul, ev_powR]; exact eu y) x
    rw [ev_trim, h1, ev_dR_mul, pw, ev_powR, ev_trim, ev_add, ev_scl, ev_mul, ev_mul, Rat.pow_succ]
    grind
  have : vp p (trim (dR q)) = e := vp_eq h ⟨_, row_trim _, fun hd => ?_, er⟩
  · rw [this]
  · -- p divides the rate of p, or u
    obtain ⟨z, hz⟩ := hd
    have d2 : Dvd p (trim (mulL (trim (dR p)) u)) := ⟨sclL (1 / ((e + 1 : Nat) : Rat)) (addL z (sclL (-1) (dR u))), fun x => by
      have := hz x
      rw [ev_trim, ev_add, ev_scl, ev_mul, ev_mul] at this
      rw [ev_trim, ev_mul, ev_trim, ev_scl, ev_add, ev_scl]
      grind⟩
    rcases h.prime (b := u) (row_trim (dR p)) (fun x => by rw [ev_trim, ev_mul]) d2 with z | z
    · exact h.rate z
    · exact nu z
end DL

set_option linter.all false
set_option autoImplicit false
namespace DL
/-! ### a row by its powers -/
noncomputable def bpF : Nat → List Rat → List Rat → Nat → List (List Rat × Nat)
  | 0, _, _, _ => []
  | n + 1, both, left, k => if left.length ≤ 1 then [] else
    (if 1 < (quo left (gcd left both)).length then [(ledR (quo left (gcd left both)), k)] else []) ++ bpF n (quo both (gcd left both)) (gcd left both) (k + 1)
structure BpS (b both left : List Rat) (k : Nat) : Prop where
  mb : Mon both
  rl : IsRow left
  l0 : left ≠ []
  k1 : 1 ≤ k
  vl : ∀ p, Irr p → vp p left = if k ≤ vp p b then 1 else 0
  vb : ∀ p, Irr p → vp p both = vp p b - k
theorem quo_mon {p g : List Rat} (hp : Mon p) (hg : Mon g) (h : Dvd g p) : Mon (quo p g) := by
  obtain ⟨ru, hu⟩ := quo_dvd hp.row hg.row hg.ne h
  obtain ⟨u0, _, _⟩ := cof_len hp.row hg.row ru hp.ne hu
  rcases snoc_cases (quo p g) with z | ⟨U, c, hU⟩
  · exact absurd z u0
  · obtain ⟨l, rfl⟩ := hp
    obtain ⟨k, rfl⟩ := hg
    rw [hU] at ru hu
    obtain ⟨R, _, h2⟩ := mul_snoc U k (snoc_row ru) (b := 1) (by decide)
    have e : l ++ [1] = R ++ [c * 1] := by
      rw [← h2]
      exact row_ext (row_snoc _ (by decide)) (row_trim _) fun x => by rw [ev_trim, ev_mul]; exact hu x
    have e3 := List.append_inj_right' e rfl
    have c1 : c = 1 := by
      have : (1 : Rat) = c * 1 := by injection e3
      grind
    exact ⟨U, by rw [hU, c1]⟩
theorem vp_quo {p a g : List Rat} (h : Irr p) (ha : IsRow a) (hg : IsRow g) (a0 : a ≠ []) (hd : Dvd g a) : vp p (quo a g) + vp p g = vp p a ∧ quo a g ≠ [] ∧ IsRow (quo a g) ∧ (quo a g).length + g.length = a.length + 1 := by
  have g0 := (hd.len hg ha a0).1
  obtain ⟨ru, hu⟩ := quo_dvd ha hg g0 hd
  obtain ⟨u0, _, l⟩ := cof_len ha hg ru a0 hu
  exact ⟨(vp_mul h ru hg u0 g0 hu).symm, u0, ru, l⟩
theorem quo_facts {a g : List Rat} (ha : IsRow a) (hg : IsRow g) (a0 : a ≠ []) (hd : Dvd g a) : quo a g ≠ [] ∧ IsRow (quo a g) ∧ (quo a g).length + g.length = a.length + 1 := by
  have g0 := (hd.len hg ha a0).1
  obtain ⟨ru, hu⟩ := quo_dvd ha hg g0 hd
  obtain ⟨u0, _, l⟩ := cof_len ha hg ru a0 hu
  exact ⟨u0, ru, l⟩
structure BpN (both left still : List Rat) : Prop where
  ms : Mon still
  ds : Dvd still left
  db : Dvd still both
  p0 : quo left still ≠ []
  rp : IsRow (quo left still)
  lp : (quo left still).length + still.length = left.length + 1
  lb : (quo both still).length + still.length = both.length + 1
  mb : Mon (quo both still)
  meas : left.length ≤ 1 ∨ 2 * (quo both still).length + still.length < 2 * both.length + left.length
theorem BpS.next {b both left : List Rat} {k : Nat} (h : BpS b both left k) : BpN both left (gcd left both) := by
  have F := shT_facts h.rl h.mb.row
  have ms := mon_gcd h.rl h.mb.row (.inl h.l0)
  obtain ⟨p0, rp, lp⟩ := quo_facts h.rl ms.row h.l0 F.dp
  obtain ⟨b0, rb, lb⟩ := quo_facts h.mb.row ms.row h.mb.ne F.dq
  refine ⟨ms, F.dp, F.dq, p0, rp, lp, lb, quo_mon h.mb ms F.dq, ?_⟩
  have e : gcd left both = (shT left both).1 := rfl
  rcases Nat.lt_or_ge 1 left.length with h1 | h1
  · refine .inr ?_
    have := ms.pos
    have := List.length_pos_iff.mpr p0
    omega
  · exact .inl h1
theorem BpS.step {b both left : List Rat} {k : Nat} (h : BpS b both left k) : BpS b (quo both (gcd left both)) (gcd left both) (k + 1) ∧ ∀ p, Irr p → vp p (quo left (gcd left both)) = if vp p b = k then 1 else 0 := by
  have N := h.next
  have vs : ∀ p, Irr p → vp p (gcd left both) = if k + 1 ≤ vp p b then 1 else 0 := fun p ip => by
    rw [vp_gcd ip h.rl h.mb.row h.l0 h.mb.ne, h.vl p ip, h.vb p ip]
    split <;> split <;> omega
  refine ⟨⟨N.mb, N.ms.row, N.ms.ne, by omega, vs, fun p ip => ?_⟩, fun p ip => ?_⟩
  · have h1 := (vp_quo ip h.mb.row N.ms.row h.mb.ne N.db).1
    rw [vs p ip, h.vb p ip] at h1
    split at h1 <;> omega
  · have h1 := (vp_quo ip h.rl N.ms.row h.l0 N.ds).1
    rw [vs p ip, h.vl p ip] at h1
    split at h1 <;> split at h1 <;> split <;> omega
noncomputable def vs (p : List Rat) (F : List (List Rat × Nat)) : Nat := (F.map fun e => vp p e.1).sum
noncomputable def ws (p : List Rat) (F : List (List Rat × Nat)) : Nat := (F.map fun e => e.2 * vp p e.1).sum
theorem vs_app (p : List Rat) (F G : List (List Rat × Nat)) : vs p (F ++ G) = vs p F + vs p G := by unfold vs; rw [List.map_append, List.sum_append]
theorem ws_app (p : List Rat) (F G : List (List Rat × Nat)) : ws p (F ++ G) = ws p F + ws p G := by unfold ws; rw [List.map_append, List.sum_append]
theorem vs_nil (p : List Rat) : vs p [] = 0 := rfl
theorem ws_nil (p : List Rat) : ws p [] = 0 := rfl
theorem vs_one (p d : List Rat) (k : Nat) : vs p [(d, k)] = vp p d := by show vp p d + 0 = _; omega
theorem ws_one (p d : List Rat) (k : Nat) : ws p [(d, k)] = k * vp p d := by show k * vp p d + 0 = _; omega
theorem vp_led {p l : List Rat} (h : Irr p) (hl : IsRow l) (l0 : l ≠ []) : vp p (ledR l) = vp p l := vp_scl h (inv_ne (lead_ne hl l0)) hl l0 fun x => ev_ledR l x
/-- what a list of parts of b keeps, from the power k on -/
structure BpP (b : List Rat) (k : Nat) (F : List (List Rat × Nat)) : Prop where
  m : ∀ e ∈ F, Mon e.1 ∧ 2 ≤ e.1.length ∧ k ≤ e.2
  o : F.Pairwise fun a c => a.2 < c.2
  v : ∀ p, Irr p → vs p F = if k ≤ vp p b then 1 else 0
  w : ∀ p, Irr p → ws p F = if k ≤ vp p b then vp p b else 0
theorem bp_spec (b : List Rat) : ∀ (n : Nat) (both left : List Rat) (k : Nat), BpS b both left k → 2 * both.length + left.length ≤ n → BpP b k (bpF n both left k)
  | 0, both, left, k, h, hn => by
    have := h.mb.pos
    omega
  | n + 1, both, left, k, h, hn => by
    rw [bpF]
    have N := h.next
    obtain ⟨h2, hv⟩ := h.step
    by_cases hl : left.length ≤ 1
    · rw [if_pos hl]
      have z : ∀ p, Irr p → ¬ k ≤ vp p b := fun p ip hk => by
        have h1 := h.vl p ip
        rw [vp_const ip h.rl h.l0 hl, if_pos hk] at h1
        exact absurd h1 (by decide)
      exact ⟨(fun e he => nomatch he), .nil, fun p ip => by rw [if_neg (z p ip)]; rfl, fun p ip => by rw [if_neg (z p ip)]; rfl⟩
    · rw [if_neg hl]
      have hm : 2 * (quo both (gcd left both)).length + (gcd left both).length ≤ n := by
        rcases N.meas with h | h <;> omega
      have R := bp_spec b n _ _ _ h2 hm
      by_cases hp : 1 < (quo left (gcd left both)).length
      · rw [if_pos hp]
        refine ⟨fun e he => ?_, ?_, fun p ip => ?_, fun p ip => ?_⟩
        · rcases List.mem_cons.mp he with rfl | he
          · exact ⟨mon_led N.rp N.p0, by show 2 ≤ (ledR _).length; rw [ledR_len N.rp]; omega, Nat.le_refl _⟩
          · obtain ⟨a, b, c⟩ := R.m e he
            exact ⟨a, b, by omega⟩
        · refine List.pairwise_cons.mpr ⟨fun e he => ?_, R.o⟩
          have := (R.m e he).2.2
          show k < e.2
          omega
        · rw [vs_app, vs_one, R.v p ip, vp_led ip N.rp N.p0, hv p ip]
          split <;> split <;> split <;> omega
        · rw [ws_app, ws_one, R.w p ip, vp_led ip N.rp N.p0, hv p ip]
          split <;> split <;> split <;> omega
      · rw [if_neg hp, List.nil_append]
        have z : ∀ p, Irr p → vp p b ≠ k := fun p ip hk => by
          have h1 := hv p ip
          rw [vp_const ip N.rp N.p0 (by omega), if_pos hk] at h1
          exact absurd h1 (by decide)
        refine ⟨fun e he => ?_, R.o, fun p ip => ?_, fun p ip => ?_⟩
        · obtain ⟨a, b, c⟩ := R.m e he
          exact ⟨a, b, by omega⟩
        · have := z p ip
          rw [R.v p ip]
          split <;> split <;> omega
        · have := z p ip
          rw [R.w p ip]
          split <;> split <;> omega
theorem gcd_nil {b : List Rat} (hb : IsRow b) (b0 : b ≠ []) : gcd b [] = ledR b := by
  have hl := lead_ne hb b0
  have e : ∀ x, ev [1 / lead b] x * ev b x + ev [] x * ev [] x = ev (ledR b) x := fun x => by rw [ev_cons, ev_nil, ev_ledR]; grind
  have d : Dvd (ledR b) b := ⟨[lead b], fun x => by rw [ev_cons, ev_nil, ev_ledR]; grind⟩
  exact (gcd_of hb row_nil (.inl b0) (mon_led hb b0) d (.nil _) e).symm
theorem bp_start {b : List Rat} (hb : IsRow b) (b0 : b ≠ []) : BpS b (gcd b (trim (dR b))) (quo b (gcd b (trim (dR b)))) 1 := by
  have F := shT_facts hb (row_trim (dR b))
  have ms := mon_gcd hb (row_trim (dR b)) (.inl b0)
  obtain ⟨p0, rp, lp⟩ := quo_facts hb ms.row b0 F.dp
  have vb : ∀ p, Irr p → vp p (gcd b (trim (dR b))) = vp p b - 1 := fun p ip => by
    rcases Nat.eq_zero_or_pos (vp p b) with z | z
    · have := vp_dvd ip ms.row hb b0 F.dp
      omega
    · obtain ⟨n0, h⟩ := vp_rate ip hb b0 z
      rw [vp_gcd ip hb (row_trim _) b0 n0]
      omega
  refine ⟨ms, rp, p0, Nat.le_refl _, fun p ip => ?_, vb⟩
  have h1 := (vp_quo ip hb ms.row b0 F.dp).1
  rw [vb p ip] at h1
  split <;> omega
noncomputable def bpL (b : List Rat) : List (List Rat × Nat) := bpF (2 * (gcd b (trim (dR b))).length + (quo b (gcd b (trim (dR b)))).length) (gcd b (trim (dR b))) (quo b (gcd b (trim (dR b)))) 1
theorem bpL_spec {b : List Rat} (hb : IsRow b) (b0 : b ≠ []) : BpP b 1 (bpL b) := bp_spec b _ _ _ _ (bp_start hb b0) (Nat.le_refl _)
theorem bpL_div {b : List Rat} (hb : IsRow b) (b0 : b ≠ []) : ∀ e ∈ bpL b, Dvd e.1 b := fun e he => by
  have S := bpL_spec hb b0
  obtain ⟨m, l, k⟩ := S.m e he
  refine dvd_of_vp _ e.1 b (Nat.le_refl _) m.row hb m.ne b0 fun p ip => ?_
  have h1 := S.v p ip
  have h2 : vp p e.1 ≤ vs p (bpL b) := by
    obtain ⟨A, B, h⟩ := List.append_of_mem he
    rw [h]
    show _ ≤ vs p (A ++ ([e] ++ B))
    rw [vs_app, vs_app]
    have : vs p [e] = vp p e.1 := by show vp p e.1 + 0 = _; omega
    omega
  split at h1 <;> omega
/-! ### a part cut by rows -/
noncomputable def cutL (d row : List Rat) : List (List Rat) := [gcd d row, quo d (gcd d row)].filter fun e => decide (e ≠ [1])
noncomputable def pcR : List (List Rat) → List Rat → List (List Rat)
  | [], d => [d]
  | row :: told, d => (cutL d row).flatMap (pcR told)
/-- d is led, of two places or more, and has none of its parts twice -/
structure Sqf (d : List Rat) : Prop where
  m : Mon d
  l : 2 ≤ d.length
  v : ∀ p, Irr p → vp p d ≤ 1
theorem Sqf.of {d e : List Rat} (h : Sqf d) (me : Mon e) (le : 2 ≤ e.length) (hd : Dvd e d) : Sqf e := ⟨me, le, fun p ip => Nat.le_trans (vp_dvd ip me.row h.m.row h.m.ne hd) (h.v p ip)⟩
structure CutF (d row : List Rat) : Prop where
  mg : Mon (gcd d row)
  mq : Mon (quo d (gcd d row))
  gd : Dvd (gcd d row) d
  qd : Dvd (quo d (gcd d row)) d
  gr : Dvd (gcd d row) row
  qr : ∀ e, Mon e → 2 ≤ e.length → Dvd e (quo d (gcd d row)) → gcd e row = [1] ∧ ¬ Dvd e row
  v : ∀ p, Irr p → vp p (gcd d row) + vp p (quo d (gcd d row)) = vp p d
theorem cut_facts {d row : List Rat} (h : Sqf d) (hr : IsRow row) : CutF d row := by
  have F := shT_facts h.m.row hr
  have ms := mon_gcd h.m.row hr (.inl h.m.ne)
  have mq := quo_mon h.m ms F.dp
  have hv : ∀ p, Irr p → vp p (gcd d row) + vp p (quo d (gcd d row)) = vp p d := fun p ip => by
    have := (vp_quo ip h.m.row ms.row h.m.ne F.dp).1
    omega
  obtain ⟨ru, hu⟩ := quo_dvd h.m.row ms.row ms.ne F.dp
  refine ⟨ms, mq, F.dp, ⟨gcd d row, fun x => by rw [hu]; grind⟩, F.dq, fun e me le de => ?_, hv⟩
  have r0 : row ≠ [] := fun z => by
    rw [z, gcd_nil h.m.row h.m.ne] at de
    have e1 : ledR d = d := by
      refine row_ext (row_trim _) h.m.row fun x => ?_
      rw [ev_ledR, h.m.lead]
      grind
    rw [e1] at de
    have hq := quo_facts h.m.row h.m.row h.m.ne (.refl d)
    have := (de.len me.row hq.2.1 hq.1).2
    omega
  have g1 : gcd e row = [1] := gcd_vp_one me.row hr me.ne r0 fun p ip => by
    have h1 := vp_dvd ip me.row mq.row mq.ne de
    have h2 := hv p ip
    have h3 := h.v p ip
    rw [vp_gcd ip h.m.row hr h.m.ne r0] at h2
    omega
  refine ⟨g1, fun hd => ?_⟩
  have F2 := shT_facts me.row hr
  have : Dvd e [1] := by
    have e1 : (shT e row).1 = [1] := g1
    rw [← e1]
    exact dvd_comb (.refl e) hd F2.eq
  have := (this.len me.row row_one1 (by decide)).2
  have : e.length ≤ 1 := this
  omega
theorem cut_mem {d row e : List Rat} (h : Sqf d) (hr : IsRow row) (he : e ∈ cutL d row) : (e = gcd d row ∨ e = quo d (gcd d row)) ∧ Sqf e := by
  have C := cut_facts h hr
  unfold cutL at he
  rw [List.mem_filter] at he
  obtain ⟨h1, h2⟩ := he
  have ne : e ≠ [1] := of_decide_eq_true h2
  have len : Mon e → 2 ≤ e.length := fun m => by
    rcases Nat.lt_or_ge 1 e.length with z | z
    · exact z
    · exact absurd (mon_one m z) ne
  simp only [List.mem_cons, List.not_mem_nil, or_false] at h1
  rcases h1 with rfl | rfl
  · exact ⟨.inl rfl, h.of C.mg (len C.mg) C.gd⟩
  · exact ⟨.inr rfl, h.of C.mq (len C.mq) C.qd⟩
theorem pc_dvd : ∀ (told : List (List Rat)) (d e : List Rat), Sqf d → (∀ r ∈ told, IsRow r) → e ∈ pcR told d → Sqf e ∧ Dvd e d
  | [], d, e, h, _, he => by
    rw [pcR, List.mem_singleton] at he
    rw [he]
    exact ⟨h, .refl d⟩
  | row :: told, d, e, h, hr, he => by
    rw [pcR, List.mem_flatMap] at he
    obtain ⟨c, hc, he⟩ := he
    have C := cut_facts h (hr row (List.mem_cons_self ..))
    obtain ⟨hc1, hc2⟩ := cut_mem h (hr row (List.mem_cons_self ..)) hc
    obtain ⟨h1, h2⟩ := pc_dvd told c e hc2 (fun r hr' => hr r (List.mem_cons_of_mem _ hr')) he
    refine ⟨h1, h2.trans ?_⟩
    rcases hc1 with rfl | rfl
    · exact C.gd
    · exact C.qd
theorem pc_told : ∀ (told : List (List Rat)) (d e : List Rat), Sqf d → (∀ r ∈ told, IsRow r) → e ∈ pcR told d → ∀ r ∈ told, Dvd e r ∨ (gcd e r = [1] ∧ ¬ Dvd e r)
  | [], d, e, h, _, he => fun r hr => nomatch hr
  | row :: told, d, e, h, hr, he => by
    rw [pcR, List.mem_flatMap] at he
    obtain ⟨c, hc, he⟩ := he
    have C := cut_facts h (hr row (List.mem_cons_self ..))
    obtain ⟨hc1, hc2⟩ := cut_mem h (hr row (List.mem_cons_self ..)) hc
    have hr' : ∀ r ∈ told, IsRow r := fun r hr' => hr r (List.mem_cons_of_mem _ hr')
    obtain ⟨h1, h2⟩ := pc_dvd told c e hc2 hr' he
    intro r hm
    rcases List.mem_cons.mp hm with rfl | hm
    · rcases hc1 with rfl | rfl
      · exact .inl (h2.trans C.gr)
      · exact .inr (C.qr e h1.m h1.l h2)
    · exact pc_told told c e hc2 hr' he r hm
theorem flat_filter {α : Type} (f : List Rat → List α) (a b : List Rat) : ([a, b].filter fun e => decide (e ≠ [1])).flatMap f = (if a = [1] then [] else f a) ++ (if b = [1] then [] else f b) := by
  by_cases h1 : a = [1] <;> by_cases h2 : b = [1] <;> simp [h1, h2]
noncomputable def vsR (p : List Rat) (l : List (List Rat)) : Nat := (l.map (vp p)).sum
theorem vsR_app (p : List Rat) (F G : List (List Rat)) : vsR p (F ++ G) = vsR p F + vsR p G := by unfold vsR; rw [List.map_append, List.sum_append]
theorem pc_vs : ∀ (told : List (List Rat)) (d : List Rat), Sqf d → (∀ r ∈ told, IsRow r) → ∀ p, Irr p → vsR p (pcR told d) = vp p d
  | [], d, h, _ => fun p ip => by show vp p d + 0 = _; omega
  | row :: told, d, h, hr => fun p ip => by
    have C := cut_facts h (hr row (List.mem_cons_self ..))
    have hr' : ∀ r ∈ told, IsRow r := fun r hr' => hr r (List.mem_cons_of_mem _ hr')
    have one : ∀ c, Mon c → Dvd c d → vsR p (if c = [1] then [] else pcR told c) = vp p c := fun c mc dc => by
      by_cases h1 : c = [1]
      · rw [if_pos h1, h1, vp_const ip row_one1 (by decide) (by decide)]; rfl
      · rw [if_neg h1]
        have l : 2 ≤ c.length := by
          rcases Nat.lt_or_ge 1 c.length with z | z
          · exact z
          · exact absurd (mon_one mc z) h1
        exact pc_vs told c (h.of mc l dc) hr' p ip
    rw [pcR]
    unfold cutL
    rw [flat_filter, vsR_app, one _ C.mg C.gd, one _ C.mq C.qd, C.v p ip]
open Classical in
/-- which told rows a piece divides -/
noncomputable def sgL (told : List (List Rat)) (e : List Rat) : List Int := told.map fun r => if Dvd e r then 0 else 1
theorem lt_cons_self (a : Int) {l m : List Int} (h : l < m) : a :: l < a :: m := List.Lex.cons h
theorem lt_cons_head {a b : Int} (l m : List Int) (h : a < b) : a :: l < b :: m := List.Lex.rel h
open Classical in
theorem pc_ord : ∀ (told : List (List Rat)) (d : List Rat), Sqf d → (∀ r ∈ told, IsRow r) → (pcR told d).Pairwise fun a b => sgL told a < sgL told b
  | [], d, h, _ => List.pairwise_singleton _ _
  | row :: told, d, h, hr => by
    have C := cut_facts h (hr row (List.mem_cons_self ..))
    have hr' : ∀ r ∈ told, IsRow r := fun r hr' => hr r (List.mem_cons_of_mem _ hr')
    have sub : ∀ c, Mon c → Dvd c d → ∀ e ∈ (if c = [1] then [] else pcR told c), Sqf e ∧ Dvd e c := fun c mc dc e he => by
      by_cases h1 : c = [1]
      · rw [if_pos h1] at he; cases he
      · rw [if_neg h1] at he
        have l : 2 ≤ c.length := by
          rcases Nat.lt_or_ge 1 c.length with z | z
          · exact z
          · exact absurd (mon_one mc z) h1
        exact pc_dvd told c e (h.of mc l dc) hr' he
    have ord : ∀ c, Mon c → Dvd c d → (if c = [1] then [] else pcR told c).Pairwise fun a b => sgL told a < sgL told b := fun c mc dc => by
      by_cases h1 : c = [1]
      · rw [if_pos h1]; exact .nil
      · rw [if_neg h1]
        have l : 2 ≤ c.length := by
          rcases Nat.lt_or_ge 1 c.length with z | z
          · exact z
          · exact absurd (mon_one mc z) h1
        exact pc_ord told c (h.of mc l dc) hr'
    have s0 : ∀ e, Dvd e row → sgL (row :: told) e = 0 :: sgL told e := fun e he => by
      show (if Dvd e row then (0 : Int) else 1) :: _ = _
      rw [if_pos he]; rfl
    have s1 : ∀ e, ¬ Dvd e row → sgL (row :: told) e = 1 :: sgL told e := fun e he => by
      show (if Dvd e row then (0 : Int) else 1) :: _ = _
      rw [if_neg he]; rfl
    have g0 : ∀ e ∈ (if gcd d row = [1] then [] else pcR told (gcd d row)), Dvd e row := fun e he => (sub _ C.mg C.gd e he).2.trans C.gr
    have q0 : ∀ e ∈ (if quo d (gcd d row) = [1] then [] else pcR told (quo d (gcd d row))), ¬ Dvd e row := fun e he => by
      obtain ⟨h1, h2⟩ := sub _ C.mq C.qd e he
      exact (C.qr e h1.m h1.l h2).2
    rw [pcR]
    unfold cutL
    rw [flat_filter, List.pairwise_append]
    refine ⟨(ord _ C.mg C.gd).imp_of_mem fun ha hb hlt => ?_, (ord _ C.mq C.qd).imp_of_mem fun ha hb hlt => ?_, fun a ha b hb => ?_⟩
    · rw [s0 _ (g0 _ ha), s0 _ (g0 _ hb)]
      exact lt_cons_self 0 hlt
    · rw [s1 _ (q0 _ ha), s1 _ (q0 _ hb)]
      exact lt_cons_self 1 hlt
    · rw [s0 _ (g0 _ ha), s1 _ (q0 _ hb)]
      exact lt_cons_head _ _ (by decide)
end DL

set_option linter.all false
set_option autoImplicit false
namespace DL
/-! ### the parts of a row by told rows -/
noncomputable def allP (b : List Rat) (told : List (List Rat)) : List (List Rat × Nat) := (bpL b).flatMap fun e => (pcR told e.1).map fun d => (d, e.2)
def PR (F : List (List Rat × Nat)) : List Rat := F.foldl (fun q e => trim (mulL q (powR e.1 e.2))) [1]
theorem PR_snoc (F : List (List Rat × Nat)) (e : List Rat × Nat) : PR (F ++ [e]) = trim (mulL (PR F) (powR e.1 e.2)) := by unfold PR; rw [List.foldl_append]; rfl
theorem PR_nil : PR [] = [1] := rfl
theorem PR_mon {F : List (List Rat × Nat)} (h : ∀ e ∈ F, Mon e.1) : Mon (PR F) := by
  suffices z : ∀ n, Mon (PR (F.take n)) by
    have := z F.length
    rw [List.take_length] at this
    exact this
  intro n
  induction n with
  | zero => rw [List.take_zero]; exact Mon.one
  | succ n ih =>
    rw [List.take_succ]
    cases e : F[n]? with
    | none => show Mon (PR (_ ++ [])); rw [List.append_nil]; exact ih
    | some c =>
      show Mon (PR (_ ++ [c]))
      rw [PR_snoc]
      exact ih.mul (powR_mon (h c (List.mem_of_getElem? e)) c.2)
theorem vp_PR {p : List Rat} (ip : Irr p) {F : List (List Rat × Nat)} (h : ∀ e ∈ F, Mon e.1) : vp p (PR F) = ws p F := by
  suffices z : ∀ n, vp p (PR (F.take n)) = ws p (F.take n) by
    have := z F.length
    rw [List.take_length] at this
    exact this
  intro n
  induction n with
  | zero => rw [List.take_zero]; exact vp_const (a := [1]) ip row_one1 (by decide) (by decide)
  | succ n ih =>
    rw [List.take_succ]
    cases e : F[n]? with
    | none => show vp p (PR (_ ++ [])) = ws p (_ ++ []); rw [List.append_nil]; exact ih
    | some c =>
      show vp p (PR (_ ++ [c])) = ws p (_ ++ [c])
      have mc := h c (List.mem_of_getElem? e)
      have mp : Mon (PR (F.take n)) := PR_mon fun e he => h e (List.mem_of_mem_take he)
      have mw := powR_mon mc c.2
      have h1 := vp_mul (c := trim (mulL (PR (F.take n)) (powR c.1 c.2))) ip mp.row mw.row mp.ne mw.ne fun x => by rw [ev_trim, ev_mul]
      rw [PR_snoc, h1, ih, ws_app, vp_pow ip mc, ws_one p c.1 c.2]
theorem vs_flat {p : List Rat} (G : List Rat → List (List Rat)) (h : ∀ L : List (List Rat × Nat), L = L → True) : ∀ L : List (List Rat × Nat), (∀ e ∈ L, vsR p (G e.1) = vp p e.1) → vs p (L.flatMap fun e => (G e.1).map fun d => (d, e.2)) = vs p L ∧ ws p (L.flatMap fun e => (G e.1).map fun d => (d, e.2)) = ws p L
  | [], _ => ⟨rfl, rfl⟩
  | e :: L, hL => by
    obtain ⟨i1, i2⟩ := vs_flat G h L fun a ha => hL a (List.mem_cons_of_mem _ ha)
    have h1 := hL e (List.mem_cons_self ..)
    have e1 : ∀ M : List (List Rat), vs p (M.map fun d => (d, e.2)) = vsR p M := fun M => by
      unfold vs vsR
      rw [List.map_map]
      rfl
    have e2 : ∀ M : List (List Rat), ws p (M.map fun d => (d, e.2)) = e.2 * vsR p M := fun M => by
      induction M with
      | nil => rfl
      | cons a M ih =>
        show e.2 * vp p a + ws p (M.map fun d => (d, e.2)) = e.2 * (vp p a + vsR p M)
        rw [ih, Nat.mul_add]
    have c1 : vs p (e :: L) = vp p e.1 + vs p L := rfl
    have c2 : ws p (e :: L) = e.2 * vp p e.1 + ws p L := rfl
    rw [List.flatMap_cons, vs_app, ws_app, i1, i2, e1, e2, h1, c1, c2]
    exact ⟨rfl, rfl⟩
theorem mem_vs {p : List Rat} {F : List (List Rat × Nat)} {e : List Rat × Nat} (h : e ∈ F) : vp p e.1 ≤ vs p F ∧ e.2 * vp p e.1 ≤ ws p F := by
  obtain ⟨A, B, rfl⟩ := List.append_of_mem h
  have e1 : vs p (A ++ e :: B) = vs p A + (vp p e.1 + vs p B) := by rw [vs_app]; rfl
  have e2 : ws p (A ++ e :: B) = ws p A + (e.2 * vp p e.1 + ws p B) := by rw [ws_app]; rfl
  rw [e1, e2]
  omega
theorem bpL_sqf {b : List Rat} (hb : IsRow b) (b0 : b ≠ []) : ∀ e ∈ bpL b, Sqf e.1 := fun e he => by
  have S := bpL_spec hb b0
  obtain ⟨m, l, _⟩ := S.m e he
  refine ⟨m, l, fun p ip => ?_⟩
  have h1 := (mem_vs (p := p) he).1
  have h2 := S.v p ip
  split at h2 <;> omega
structure AllF (b : List Rat) (told : List (List Rat)) (F : List (List Rat × Nat)) : Prop where
  sq : ∀ e ∈ F, Sqf e.1
  dv : ∀ e ∈ F, Dvd e.1 b
  k1 : ∀ e ∈ F, 1 ≤ e.2
  td : ∀ e ∈ F, ∀ r ∈ told, Dvd e.1 r ∨ (gcd e.1 r = [1] ∧ ¬ Dvd e.1 r)
  v : ∀ p, Irr p → vs p F ≤ 1
  w : ∀ p, Irr p → ws p F = vp p b
  o : F.Pairwise fun a c => ((a.2 : Int) :: sgL told a.1) < ((c.2 : Int) :: sgL told c.1)
theorem allP_facts {b : List Rat} {told : List (List Rat)} (hb : IsRow b) (b0 : b ≠ []) (hr : ∀ r ∈ told, IsRow r) : AllF b told (allP b told) := by
  have S := bpL_spec hb b0
  have Q := bpL_sqf hb b0
  have mem : ∀ e ∈ allP b told, ∃ c ∈ bpL b, e.1 ∈ pcR told c.1 ∧ e.2 = c.2 := fun e he => by
    unfold allP at he
    obtain ⟨c, hc, he⟩ := List.mem_flatMap.mp he
    obtain ⟨d, hd, rfl⟩ := List.mem_map.mp he
    exact ⟨c, hc, hd, rfl⟩
  have VW : ∀ p, Irr p → vs p (allP b told) = vs p (bpL b) ∧ ws p (allP b told) = ws p (bpL b) := fun p ip => vs_flat (pcR told) (fun _ _ => trivial) _ fun e he => pc_vs told e.1 (Q e he) hr p ip
  refine ⟨fun e he => ?_, fun e he => ?_, fun e he => ?_, fun e he r hm => ?_, fun p ip => ?_, fun p ip => ?_, ?_⟩
  · obtain ⟨c, hc, hd, _⟩ := mem e he
    exact (pc_dvd told c.1 e.1 (Q c hc) hr hd).1
  · obtain ⟨c, hc, hd, _⟩ := mem e he
    exact (pc_dvd told c.1 e.1 (Q c hc) hr hd).2.trans (bpL_div hb b0 c hc)
  · obtain ⟨c, hc, hd, h2⟩ := mem e he
    rw [h2]
    exact (S.m c hc).2.2
  · obtain ⟨c, hc, hd, _⟩ := mem e he
    exact pc_told told c.1 e.1 (Q c hc) hr hd r hm
  · rw [(VW p ip).1, S.v p ip]
    split <;> omega
  · rw [(VW p ip).2, S.w p ip]
    split <;> omega
  · have key : ∀ L : List (List Rat × Nat), (∀ e ∈ L, Sqf e.1) → (L.Pairwise fun a c => a.2 < c.2) → (L.flatMap fun e => (pcR told e.1).map fun d => (d, e.2)).Pairwise fun a c => ((a.2 : Int) :: sgL told a.1) < ((c.2 : Int) :: sgL told c.1) := fun L => by
      induction L with
      | nil => intro _ _; exact .nil
      | cons e L ih =>
        intro hs ho
        obtain ⟨ho1, ho2⟩ := List.pairwise_cons.mp ho
        rw [List.flatMap_cons, List.pairwise_append]
        refine ⟨?_, ih (fun a ha => hs a (List.mem_cons_of_mem _ ha)) ho2, fun a ha c hc => ?_⟩
        · rw [List.pairwise_map]
          exact (pc_ord told e.1 (hs e (List.mem_cons_self ..)) hr).imp fun h => lt_cons_self _ h
        · obtain ⟨d, _, rfl⟩ := List.mem_map.mp ha
          obtain ⟨c', hc', hc⟩ := List.mem_flatMap.mp hc
          obtain ⟨d', _, rfl⟩ := List.mem_map.mp hc
          have := ho1 c' hc'
          exact lt_cons_head _ _ (by show (e.2 : Int) < (c'.2 : Int); omega)
    exact key _ Q S.o
theorem AllF.mon {b : List Rat} {told : List (List Rat)} {F : List (List Rat × Nat)} (h : AllF b told F) : ∀ e ∈ F, Mon e.1 := fun e he => (h.sq e he).m
theorem AllF.prod {b : List Rat} {told : List (List Rat)} {F : List (List Rat × Nat)} (h : AllF b told F) (hb : IsRow b) (b0 : b ≠ []) : PR F = ledR b :=
  mon_ext (PR_mon h.mon) (mon_led hb b0) fun p ip => by rw [vp_PR ip h.mon, h.w p ip, vp_led ip hb b0]
theorem AllF.pre {b : List Rat} {told : List (List Rat)} {F A B : List (List Rat × Nat)} {e : List Rat × Nat} (h : AllF b told F) (hF : F = A ++ e :: B) : gcd e.1 (PR A) = [1] := by
  have mA : ∀ a ∈ A, Mon a.1 := fun a ha => h.mon a (by rw [hF]; exact List.mem_append_left _ ha)
  have me := h.mon e (by rw [hF]; exact List.mem_append_right _ (List.mem_cons_self ..))
  refine gcd_vp_one me.row (PR_mon mA).row me.ne (PR_mon mA).ne fun p ip => ?_
  have h1 := h.v p ip
  have e1 : vs p F = vs p A + (vp p e.1 + vs p B) := by rw [hF, vs_app]; rfl
  rw [vp_PR ip mA]
  rcases Nat.eq_zero_or_pos (vp p e.1) with z | z
  · exact .inl z
  · refine .inr ?_
    have h2 : vs p A = 0 := by omega
    have : ∀ L : List (List Rat × Nat), vs p L = 0 → ws p L = 0 := fun L => by
      induction L with
      | nil => intro _; rfl
      | cons a L ih =>
        intro hz
        have c1 : vs p (a :: L) = vp p a.1 + vs p L := rfl
        have c2 : ws p (a :: L) = a.2 * vp p a.1 + ws p L := rfl
        rw [c1] at hz
        rw [c2, ih (by omega), show vp p a.1 = 0 by omega]
        rfl
    exact this A h2
theorem AllF.divPR {b : List Rat} {told : List (List Rat)} {F : List (List Rat × Nat)} (h : AllF b told F) (hb : IsRow b) (b0 : b ≠ []) (n : Nat) : Dvd (PR (F.take n)) b := by
  have mA : ∀ a ∈ F.take n, Mon a.1 := fun a ha => h.mon a (List.mem_of_mem_take ha)
  refine dvd_of_vp _ _ _ (Nat.le_refl _) (PR_mon mA).row hb (PR_mon mA).ne b0 fun p ip => ?_
  rw [vp_PR ip mA, ← h.w p ip]
  have : ws p F = ws p (F.take n) + ws p (F.drop n) := by rw [← ws_app, List.take_append_drop]
  omega
theorem AllF.divPow {b : List Rat} {told : List (List Rat)} {F : List (List Rat × Nat)} (h : AllF b told F) (hb : IsRow b) (b0 : b ≠ []) {e : List Rat × Nat} (he : e ∈ F) {n : Nat} (hn : n ≤ e.2) : Dvd (powR e.1 n) b := by
  have me := h.mon e he
  refine dvd_of_vp _ _ _ (Nat.le_refl _) (powR_row _ _) hb (powR_mon me n).ne b0 fun p ip => ?_
  rw [vp_pow ip me, ← h.w p ip]
  have := (mem_vs (p := p) he).2
  have := Nat.mul_le_mul_right (vp p e.1) hn
  omega
theorem sqf_rate {d : List Rat} (h : Sqf d) : trim (dR d) ≠ [] ∧ gcd d (trim (dR d)) = [1] := by
  have n0 := dR_ne h.m.row h.l
  refine ⟨n0, gcd_vp_one h.m.row (row_trim _) h.m.ne n0 fun p ip => ?_⟩
  rcases Nat.eq_zero_or_pos (vp p d) with z | z
  · exact .inl z
  · have := (vp_rate ip h.m.row h.m.ne z).2
    have := h.v p ip
    exact .inr (by omega)
/-! ### sizes of what divides -/
def Pd (m : Nat) (b : List Rat) : Prop := ∀ d, Mon d → Dvd d b → Sr m d
theorem Pd.up {m n : Nat} {b : List Rat} (h : Pd m b) (hn : m ≤ n) : Pd n b := fun d md dd => (h d md dd).up hn
theorem Pd.scl {m : Nat} {b c : List Rat} {k : Rat} (h : Pd m b) (hk : k ≠ 0) (e : ∀ x, ev c x = ev b x * k) : Pd m c := fun d md dd => h d md (dvd_ext (fun x => by rw [ev_scl, e]; grind) (dd.scl (c := 1 / k)))
theorem Pd.sub {m : Nat} {b c : List Rat} (h : Pd m b) (hd : Dvd c b) : Pd m c := fun d md dd => h d md (dd.trans hd)
theorem sr_one1 : Sr 1 [1] := ⟨1, 1, by decide, by decide, by decide, .cons ⟨1, by rw [Rat.one_mul]; rfl, by decide⟩ .nil⟩
theorem Pd.one : Pd 1 [1] := fun d md dd => by
  have := (dd.len md.row row_one1 (by decide)).2
  rw [mon_one md this]
  exact sr_one1
theorem dvd_peel {f : List Rat} (h : Irr f) {B : List Rat} (hB : IsRow B) (B0 : B ≠ []) : ∀ (e : Nat) (d : List Rat), Mon d → Dvd d (trim (mulL B (powR f e))) → ∃ a, a ≤ e ∧ ∃ d1, Mon d1 ∧ Dvd d1 B ∧ ∀ x, ev d x = ev f x ^ a * ev d1 x
  | 0, d, md, dd => ⟨0, Nat.le_refl _, d, md, dvd_ext (fun x => by rw [ev_trim, ev_mul, ev_powR, Rat.pow_zero, Rat.mul_one]) dd, fun x => by rw [Rat.pow_zero, Rat.one_mul]⟩
  | e + 1, d, md, dd => by
    rcases h.cases md.row with g | g
    · obtain ⟨s, t, _, _, hb⟩ := bez_one h.m.row md.row g
      have d2 : Dvd d (trim (mulL B (powR f e))) := by
        obtain ⟨u, hu⟩ := dd
        refine ⟨addL (mulL s u) (mulL t (mulL B (powR f e))), fun x => ?_⟩
        have h1 := hb x
        have h2 := hu x
        rw [ev_trim, ev_mul, ev_powR, Rat.pow_succ] at h2
        rw [ev_trim, ev_mul, ev_powR, ev_add, ev_mul, ev_mul, ev_mul, ev_powR]
        have : ev B x * ev f x ^ e = ev B x * ev f x ^ e * (ev s x * ev f x + ev t x * ev d x) := by rw [h1]; grind
        rw [this]
        grind
      obtain ⟨a, ha, d1, m1, h1, h2⟩ := dvd_peel h hB B0 e d md d2
      exact ⟨a, by omega, d1, m1, h1, h2⟩
    · obtain ⟨ru, hu⟩ := quo_dvd md.row h.m.row h.m.ne g
      have mu := quo_mon md h.m g
      have d2 : Dvd (quo d f) (trim (mulL B (powR f e))) := by
        obtain ⟨w, hw⟩ := dd
        refine ⟨w, fun x => ?_⟩
        have h1 := ev_cancel2 h.m.row h.m.ne 1 (a := trim (mulL B (powR f e))) (b := mulL w (quo d f)) (fun y => by
          have h2 := hw y
          rw [ev_trim, ev_mul, ev_powR, Rat.pow_succ, hu] at h2
          rw [ev_trim, ev_mul, ev_mul, ev_powR, Rat.pow_succ, Rat.pow_zero]
          grind) x
        rw [h1, ev_mul]
      obtain ⟨a, ha, d1, m1, h1, h2⟩ := dvd_peel h hB B0 e (quo d f) mu d2
      exact ⟨a + 1, by omega, d1, m1, h1, fun x => by rw [hu, h2, Rat.pow_succ]; grind⟩
theorem Pd.mul {m k : Nat} {B f : List Rat} (hf : Irr f) (sf : Sr k f) (mB : Mon B) (h : Pd m B) (e : Nat) (hl : B.length + (f.length - 1) * e ≤ 31) : Pd (m + (1 + (k + 5) * e) + 5) (trim (mulL B (powR f e))) := fun d md dd => by
  obtain ⟨a, ha, d1, m1, h1, h2⟩ := dvd_peel hf mB.row mB.ne e d md dd
  have fl := hf.l
  have ea : d = trim (mulL d1 (powR f a)) := row_ext md.row (row_trim _) fun x => by rw [h2, ev_trim, ev_mul, ev_powR]; grind
  have s1 := h d1 m1 h1
  have l1 := (h1.len m1.row mB.row mB.ne).2
  have hk : (f.length - 1) * a ≤ (f.length - 1) * e := Nat.mul_le_mul_left _ ha
  have hk2 : (k + 5) * a ≤ (k + 5) * e := Nat.mul_le_mul_left _ ha
  have bp := mB.pos
  have s2 := powR_sr (by omega) sf (n := a) (by omega)
  rw [ea]
  exact ((s1.mul s2 (k := 5) (by omega)).trim).up (by omega)
end DL

set_option linter.all false
set_option autoImplicit false
set_option maxRecDepth 10000
namespace DL
/-! ### a law's rows are divided by none -/
theorem rat_num_den (y : Rat) : y * (y.den : Rat) = (y.num : Rat) := by
  have e := Rat.num_divInt_den y
  have h : ((y.den : Int) : Rat) ≠ 0 := fun z => by
    have h3 : ((y.den : Int) : Rat) = ((0 : Int) : Rat) := z
    have := Rat.intCast_inj.mp h3
    have := y.den_pos
    omega
  rw [Rat.divInt_eq_div] at e
  have e2 : y * ((y.den : Int) : Rat) = (y.num : Rat) := by grind
  exact e2
theorem den_one {a d : Nat} (hc : Nat.Coprime a d) (h : d ∣ a * a * a) : d = 1 := by
  have h1 : d ∣ a * a := hc.symm.dvd_of_dvd_mul_right h
  have h2 : d ∣ a := hc.symm.dvd_of_dvd_mul_right h1
  exact Nat.Coprime.eq_one_of_dvd hc.symm h2
theorem no_sq {n : Int} (h : n < 0 ∨ (n.natAbs < 16 ∧ ∀ a, a < 4 → a * a ≠ n.natAbs)) (y : Rat) : y * y ≠ (n : Rat) := fun e => by
  have h1 := rat_num_den y
  have h2 : ((y.num * y.num : Int) : Rat) = ((n * ((y.den : Int) * (y.den : Int)) : Int) : Rat) := by
    rw [Rat.intCast_mul, Rat.intCast_mul, Rat.intCast_mul, ← h1, ← e]
    have : (((y.den : Nat) : Int) : Rat) = ((y.den : Nat) : Rat) := rfl
    rw [this]
    grind
  have h3 := Rat.intCast_inj.mp h2
  have dp := y.den_pos
  have dp2 : (0 : Int) < (y.den : Int) * (y.den : Int) := Int.mul_pos (by omega) (by omega)
  rcases h with h | ⟨h, hs⟩
  · have : n * ((y.den : Int) * (y.den : Int)) < 0 := Int.mul_neg_of_neg_of_pos h dp2
    have h5 : 0 ≤ y.num * y.num := by
      rcases Int.natAbs_eq y.num with z | z <;> rw [z]
      · exact Int.mul_nonneg (by omega) (by omega)
      · rw [Int.neg_mul_neg]; exact Int.mul_nonneg (by omega) (by omega)
    omega
  · have h4 : y.num.natAbs * y.num.natAbs = n.natAbs * (y.den * y.den) := by
      have := congrArg Int.natAbs h3
      rw [Int.natAbs_mul, Int.natAbs_mul, Int.natAbs_mul, Int.natAbs_natCast] at this
      exact this
    have d1 : y.den = 1 := den_one y.reduced (by
      rw [h4]
      exact ⟨n.natAbs * y.den * y.num.natAbs, by rw [← Nat.mul_assoc n.natAbs, Nat.mul_comm (n.natAbs * y.den) y.den, Nat.mul_assoc]⟩)
    simp only [d1, Nat.mul_one] at h4
    rcases Nat.lt_or_ge y.num.natAbs 4 with z | z
    · exact hs _ z h4
    · have := Nat.mul_le_mul z z
      omega
theorem no_cube {n : Int} (h : n.natAbs < 8) (hs : ∀ a, a < 2 → a * a * a ≠ n.natAbs) (y : Rat) : y * y * y ≠ (n : Rat) := fun e => by
  have h1 := rat_num_den y
  have h2 : ((y.num * y.num * y.num : Int) : Rat) = ((n * ((y.den : Int) * (y.den : Int) * (y.den : Int)) : Int) : Rat) := by
    rw [Rat.intCast_mul, Rat.intCast_mul, Rat.intCast_mul, Rat.intCast_mul, Rat.intCast_mul, ← h1, ← e]
    have : (((y.den : Nat) : Int) : Rat) = ((y.den : Nat) : Rat) := rfl
    rw [this]
    grind
  have h3 := Rat.intCast_inj.mp h2
  have h4 : y.num.natAbs * y.num.natAbs * y.num.natAbs = n.natAbs * (y.den * y.den * y.den) := by
    have := congrArg Int.natAbs h3
    rw [Int.natAbs_mul, Int.natAbs_mul, Int.natAbs_mul, Int.natAbs_mul, Int.natAbs_mul, Int.natAbs_natCast] at this
    exact this
  have d1 : y.den = 1 := den_one y.reduced (by
    rw [h4]
    exact ⟨n.natAbs * (y.den * y.den), by rw [Nat.mul_comm (y.den * y.den) y.den, ← Nat.mul_assoc, Nat.mul_comm n.natAbs y.den, Nat.mul_assoc]⟩)
  simp only [d1, Nat.mul_one] at h4
  rcases Nat.lt_or_ge y.num.natAbs 2 with z | z
  · exact hs _ z h4
  · have := Nat.mul_le_mul (Nat.mul_le_mul z z) z
    omega
theorem mon_two {d : List Rat} (md : Mon d) (h : d.length = 2) : ∃ r : Rat, d = [r, 1] := by
  obtain ⟨l, rfl⟩ := md
  rw [List.length_append] at h
  have : l.length + 1 = 2 := h
  obtain ⟨r, rfl⟩ := List.length_eq_one_iff.mp (show l.length = 1 by omega)
  exact ⟨r, rfl⟩
theorem irr_small {f : List Rat} (mf : Mon f) (l2 : 2 ≤ f.length) (l4 : f.length ≤ 4) (hr : f.length = 2 ∨ ∀ x, ev f x ≠ 0) : Irr f := by
  have no2 : ∀ d, Mon d → Dvd d f → d.length = 2 → f.length = 2 := fun d md dd hd => by
    rcases hr with h | h
    · exact h
    · obtain ⟨r, rfl⟩ := mon_two md hd
      obtain ⟨u, hu⟩ := dd
      refine absurd ?_ (h (-r))
      rw [hu, ev_cons, ev_cons, ev_nil]
      grind
  refine ⟨mf, l2, fun d md dd => ?_⟩
  have l := (dd.len md.row mf.row mf.ne).2
  have dp := md.pos
  rcases Nat.lt_or_ge 1 d.length with h1 | h1
  · right
    refine dd.same md mf ?_
    rcases Nat.lt_or_ge 2 d.length with h2 | h2
    · rcases Nat.lt_or_ge d.length f.length with h3 | h3
      · have mq := quo_mon mf md dd
        obtain ⟨_, _, lq⟩ := quo_facts mf.row md.row mf.ne dd
        obtain ⟨_, hu⟩ := quo_dvd mf.row md.row md.ne dd
        have := no2 (quo f d) mq ⟨d, fun x => by rw [hu]; grind⟩ (by omega)
        omega
      · exact h3
    · have := no2 d md dd (by omega)
      omega
  · exact .inl (mon_one md h1)
theorem nums_no : ∀ c ∈ numsL, ∀ y : Rat, y * y ≠ ((-c : Int) : Rat) := fun c hc y => by
  unfold numsL at hc
  simp only [List.mem_cons, List.not_mem_nil, or_false] at hc
  rcases hc with rfl | rfl | rfl | rfl | rfl | rfl | rfl | rfl | rfl | rfl | rfl | rfl <;> exact no_sq (by decide) y
theorem facR_irr (xs : List Int) (k : Nat) : Irr (facR xs k) := by
  obtain ⟨l1, l2⟩ := facR_len xs k
  refine irr_small (facR_monic xs k) l1 l2 ?_
  unfold facR
  split
  · refine .inr fun x h => ?_
    have hm : numsL.getD (xs.getD (3 + k) 0 / 3 % 12).toNat 0 ∈ numsL := by
      have h1 := Int.emod_nonneg (xs.getD (3 + k) 0 / 3) (show (12 : Int) ≠ 0 by decide)
      have h2 := Int.emod_lt_of_pos (xs.getD (3 + k) 0 / 3) (show (0 : Int) < 12 by decide)
      have lt : (xs.getD (3 + k) 0 / 3 % 12).toNat < numsL.length := by show _ < 12; omega
      rw [List.getD_eq_getElem?_getD, List.getElem?_eq_getElem lt]
      exact List.getElem_mem lt
    generalize numsL.getD (xs.getD (3 + k) 0 / 3 % 12).toNat 0 = c at hm h
    rw [ev_cons, ev_cons, ev_cons, ev_nil] at h
    refine nums_no c hm (x + facA xs k) ?_
    rw [Rat.intCast_neg]
    grind
  · split
    · refine .inr fun x h => ?_
      have h6 := Int.emod_nonneg (xs.getD (3 + k) 0 / 9) (show (6 : Int) ≠ 0 by decide)
      have h7 := Int.emod_lt_of_pos (xs.getD (3 + k) 0 / 9) (show (0 : Int) < 6 by decide)
      generalize xs.getD (3 + k) 0 / 9 % 6 = c at h6 h7 h
      rw [ev_cons, ev_cons, ev_cons, ev_cons, ev_nil] at h
      refine no_cube (n := -(2 + c)) (by omega) (fun a ha => ?_) (x + facA xs k) ?_
      · rcases (by omega : a = 0 ∨ a = 1) with rfl | rfl <;> omega
      · rw [Rat.intCast_neg]
        grind
    · exact .inl rfl
end DL

set_option linter.all false
set_option autoImplicit false
set_option maxRecDepth 10000
set_option maxHeartbeats 400000
namespace DL
open PySem PySem.Spec L2
local macro_rules | `(tactic| walk_at "dl") => `(tactic| simp -implicitDefEqProofs only [wSeq, wNext, wSet, wSetL, wAsg, wPar, parD, wRet, wExpr, wApp, wSetIx, wIf, wFrz, wRaise, wBreak, wCont, eVar, eC, eOp, tBl, dI, dB, dAdd, dSub, dMul, dFdiv, dMod, dPow, eNeg, dLt, dLe, dGt, dGe, dEq, dNe, dIs, dIsNot, eAnd, eOr, eNot, tAndD, tOrD, tNotD,
  aNil, aCons, eTup, eLst, lLst, eL, dIx, eSl, dSl, oNo, oSome, eCB, cLen, cAbs, cMax, cMin, cTuple, cList, cInt, eIsi, isiD, dName, dTupT, dCons, dNil, eCell, cellP, eIxO, eLenO, eCall, startΓ, startS, List.getElem?_cons_zero, List.getElem?_cons_succ, List.set, List.map, List.length, List.replicate, List.append, List.cons_append, List.nil_append, Nat.sub_self, Nat.reduceAdd, Nat.reduceSub, true_and, ixD_0, ixD_1, ixD_2, ixD_3, ixD_4, ixD_5, ixD_6, ixD_7, ixD_8, ixD_9, ixD_10, ixD_11, ixD_12, ixD_13, ixD_14, ixD_15, ixD_16, ixD_17, ixD_18, ixD_19])
/-! ### the parts, walked -/
theorem lc_flt {Γ0 : Ct} {g : DG} {t : DT} {e : DE} {P : List D → Prop} (f : D → Option D) : ∀ (ds acc : List D), (∀ d ∈ ds, ∀ (Q : D → Prop) (R : Prop), (∀ y, f d = some y → Q y) → (f d = none → R) → g d Γ0 fun Γ' => t Γ' fun c => match c with
      | true => e Γ' Q
      | false => R) → acc.length + ds.length ≤ sizeLine → P (acc ++ ds.filterMap f) → wLc Γ0 g t e P ds acc
  | [], acc, _, _, h => by rw [List.filterMap_nil, List.append_nil] at h; exact h
  | d :: r, acc, hd, hl, h => by
    rw [wLc]
    have hl2 : acc.length + r.length + 1 ≤ sizeLine := hl
    refine hd d (List.mem_cons_self ..) _ _ (fun y hy => ⟨by omega, ?_⟩) (fun hn => ?_)
    · refine lc_flt f r (acc ++ [y]) (fun d' h' => hd d' (List.mem_cons_of_mem _ h')) (by rw [List.length_append]; show _ + 1 + _ ≤ _; omega) ?_
      rw [List.append_assoc]
      rw [List.filterMap_cons, hy] at h
      exact h
    · refine lc_flt f r acc (fun d' h' => hd d' (List.mem_cons_of_mem _ h')) (by omega) ?_
      rw [List.filterMap_cons, hn] at h
      exact h
theorem slR_eq (b : List Rat) : slR b = trim (dR b) := trim_ext _ _ (ev_slope b)
def prD (e : List Rat × Nat) : D := .tuple [rowD e.1, .int e.2]
def bX (m L : Nat) : Nat := m + (L + 1) * (m + 1) + m
theorem gB_mono {m n L : Nat} (h : m ≤ n) : gB m L ≤ gB n L := by
  unfold gB zB
  refine Nat.mul_le_mul_left _ ?_
  have := Nat.mul_le_mul_right (2 * L + 1) (show m + 7 ≤ n + 7 by omega)
  omega
theorem gB_mono2 {m L K : Nat} (h : L ≤ K) : gB m L ≤ gB m K := by
  unfold gB zB
  refine Nat.mul_le_mul (by omega) ?_
  have := Nat.mul_le_mul_left (m + 7) (show 2 * L + 1 ≤ 2 * K + 1 by omega)
  omega
def R_by_powers (py : Prop) : List D → Res → Prop := fun ds r => ∃ (b : List Rat) (m L : Nat), ds = [rowD b] ∧ IsRow b ∧ b ≠ [] ∧ b.length ≤ L ∧ L ≤ 31 ∧ Sr m b ∧ Pd m b ∧ Lim py (gB (bX m L) L) ∧ r = .ok (.list ((bpL b).map prD))
def R_cut (py : Prop) : List D → Res → Prop := fun ds r => ∃ (d row : List Rat) (m L : Nat), ds = [rowD d, rowD row] ∧ Sqf d ∧ IsRow row ∧ d.length ≤ L ∧ row.length ≤ L ∧ L ≤ 31 ∧ Sr m d ∧ Sr m row ∧ Lim py (gB m L) ∧ r = .ok (.list ((cutL d row).map rowD))
def R_parts_of (py : Prop) : List D → Res → Prop := fun ds r => ∃ (b : List Rat) (told : List (List Rat)) (m L : Nat), ds = [rowD b, .list (told.map rowD)] ∧ IsRow b ∧ b ≠ [] ∧ b.length ≤ L ∧ L ≤ 31 ∧ Sr m b ∧ Pd m b ∧ (∀ t ∈ told, IsRow t ∧ t.length ≤ L ∧ Sr m t) ∧ told.length ≤ 8 ∧ Lim py (gB (bX m L) L) ∧ r = .ok (.list ((allP b told).map prD))
def R_parts (py : Prop) : List D → Res → Prop := fun ds r => ∃ d xs, ds = [d, .list xs] ∧ xs.length ≤ 1000 ∧ (((isRow d && xs.all isRow) = false ∧ r = .err 1) ∨ (d = .tuple [] ∧ xs.all isRow = true ∧ r = .err 0) ∨ ∃ (b : List Rat) (told : List (List Rat)), d = rowD b ∧ xs = told.map rowD ∧ IsRow b ∧ b ≠ [] ∧ (∀ t ∈ told, IsRow t) ∧ R_parts_of py [d, .list xs] r)
def w_by_powers (Ex : Nat → Prop) (py : Prop) : DS :=
  (wSeq (wSetL 1 (lLst aNil))
  (wSeq (wSet 2 (eCall Ex (R_greatest py) (aCons (eVar 0) (aCons (eCall Ex (R_slope py) (aCons (eVar 0) aNil)) aNil))))
  (wSeq (wSet 3 (eOp dIx (eCall Ex (R_divide py) (aCons (eVar 0) (aCons (eVar 2) aNil))) (eC (.int 0))))
  (wSeq (wSet 4 (eC (.int 1)))
  (wSeq (wWhile (tBl (eOp dGt (eCB cLen (aCons (eVar 3) aNil)) (eC (.int 1))))
  (wSeq (wSet 5 (eCall Ex (R_greatest py) (aCons (eVar 3) (aCons (eVar 2) aNil))))
  (wSeq (wSet 6 (eOp dIx (eCall Ex (R_divide py) (aCons (eVar 3) (aCons (eVar 5) aNil))) (eC (.int 0))))
  (wSeq (wIf (tBl (eOp dGt (eCB cLen (aCons (eVar 6) aNil)) (eC (.int 1))))
  (wApp 1 (eTup (aCons (eCall Ex (R_led py) (aCons (eVar 6) aNil)) (aCons (eVar 4) aNil))))
  wNext)
  (wSeq (wSet 2 (eOp dIx (eCall Ex (R_divide py) (aCons (eVar 2) (aCons (eVar 5) aNil))) (eC (.int 0))))
  (wSeq (wSet 3 (eVar 5))
  (wSet 4 (eOp dAdd (eVar 4) (eC (.int 1))))))))))
  (wFrz 1 (wRet (eVar 1))))))))

def w_cut (Ex : Nat → Prop) (py : Prop) : DS :=
  (wSeq (wSet 2 (eCall Ex (R_greatest py) (aCons (eVar 0) (aCons (eVar 1) aNil))))
  (wRet (eL (lLc (iLst (eLst (aCons (eVar 2) (aCons (eOp dIx (eCall Ex (R_divide py) (aCons (eVar 0) (aCons (eVar 2) aNil))) (eC (.int 0))) aNil)))) [3] (dName 3) (tBl (eOp dNe (eVar 3) (eC c_ONE))) (eVar 3)))))

def w_parts_of (Ex : Nat → Prop) (py : Prop) : DS :=
  (wSeq (wSet 2 (eLst aNil))
  (wSeq (wFor (iLst (eCall Ex (R_by_powers py) (aCons (eVar 0) aNil))) (dTupT (dCons (dName 3) (dCons (dName 4) dNil)))
  (wSeq (wSet 5 (eLst (aCons (eVar 3) aNil)))
  (wSeq (wFor (iLst (eVar 1)) (dName 6)
  (wSeq (wSet 7 (eLst aNil))
  (wSeq (wFor (iLst (eVar 5)) (dName 8)
  (wSet 7 (eOp dAdd (eVar 7) (eCall Ex (R_cut py) (aCons (eVar 8) (aCons (eVar 6) aNil))))))
  (wSet 5 (eVar 7)))))
  (wSet 2 (eOp dAdd (eVar 2) (eL (lLc (iLst (eVar 5)) [8] (dName 8) tYesD (eTup (aCons (eVar 8) (aCons (eVar 4) aNil))))))))))
  (wRet (eVar 2))))

def w_parts (Ex : Nat → Prop) (py : Prop) : DS :=
  (wSeq (wExpr (eCall Ex (R_need_rows py) (aCons (eOp dAdd (eLst (aCons (eVar 0) aNil)) (eVar 1)) aNil)))
  (wSeq (wIf (tBl (eOp dEq (eCB cLen (aCons (eVar 0) aNil)) (eC (.int 0))))
  (wRaise Ex 0)
  wNext)
  (wRet (eCall Ex (R_parts_of py) (aCons (eVar 0) (aCons (eVar 1) aNil))))))

theorem bpF_len : ∀ (n : Nat) (both left : List Rat) (k : Nat), (bpF n both left k).length ≤ n
  | 0, _, _, _ => Nat.le_refl _
  | n + 1, both, left, k => by
    rw [bpF]
    split
    · exact Nat.zero_le _
    · rw [List.length_append]
      have := bpF_len n (quo both (gcd left both)) (gcd left both) (k + 1)
      split
      · show 1 + _ ≤ _; omega
      · show 0 + _ ≤ _; omega
theorem BpS.dvd {b both left : List Rat} {k : Nat} (h : BpS b both left k) (hb : IsRow b) (b0 : b ≠ []) : Dvd both b ∧ Dvd left b := by
  refine ⟨dvd_of_vp _ _ _ (Nat.le_refl _) h.mb.row hb h.mb.ne b0 fun p ip => ?_, dvd_of_vp _ _ _ (Nat.le_refl _) h.rl hb h.l0 b0 fun p ip => ?_⟩
  · rw [h.vb p ip]; omega
  · have := h.k1
    rw [h.vl p ip]
    split <;> omega
theorem bX_le {m L : Nat} (hm : 1 ≤ m) (hL : 1 ≤ L) : m + 5 ≤ bX m L := by
  unfold bX
  have : 2 * (m + 1) ≤ (L + 1) * (m + 1) := Nat.mul_le_mul_right _ (by omega)
  omega
theorem pure_by_powers (py : Prop) (ds : List D) (r : Res) (h : R_by_powers py ds r) : w_by_powers (fun g => r = .err g) py (endsOf r) (startΓ ["bottom", "found", "both", "left", "power", "still", "part"] ds) := by
  obtain ⟨b, m, L, rfl, hb, b0, lb, hL, sb, pd, hl, rfl⟩ := h
  have hm := sr_pos sb
  have bp := List.length_pos_iff.mpr b0
  have xm := bX_le (m := m) (L := L) hm (by omega)
  have lo := gB_lo (bX m L) L
  have F := shT_facts hb (row_trim (dR b))
  have S0 := bp_start hb b0
  have mg := mon_gcd hb (row_trim (dR b)) (.inl b0)
  have sg : Sr m (gcd b (trim (dR b))) := pd _ mg F.dp
  have lg := (Dvd.len mg.row hb b0 F.dp).2
  have eX : bX m L = m + (L + 1) * (m + 1) + m := rfl
  have dk : ∀ d, d ≤ L + 1 → d * (m + 1) ≤ (L + 1) * (m + 1) := fun d hd => Nat.mul_le_mul_right _ hd
  have d1 := dk (b.length + 1 - (gcd b (trim (dR b))).length) (by omega)
  obtain ⟨_, t1⟩ := dv_bits (d := b.length + 1 - (gcd b (trim (dR b))).length) hb mg.row mg.ne sb sg (by omega)
  unfold w_by_powers
  refine seq_go fun nx hnx => ?_
  walk_at "dl"
  refine hnx _ ?_
  refine seq_go fun nx hnx => ?_
  walk_at "dl"
  refine call_ok ⟨b, m, rfl, sb.az, hl.low (by omega), by omega, rfl⟩ ?_
  have ss := slR_sr sb (by omega)
  have ls := slR_len b
  have es : trim (slopeL b) = slR b := rfl
  rw [es]
  refine call_ok ⟨b, slR b, m + 5, L, rfl, hb, row_trim _, lb, by omega, hL, sb.up (by omega), ss, hl.low (gB_mono xm), rfl⟩ (hnx _ ?_)
  rw [slR_eq]
  refine seq_go fun nx hnx => ?_
  walk_at "dl"
  refine call_ok ⟨b, gcd b (trim (dR b)), m, m, b.length + 1 - (gcd b (trim (dR b))).length, rfl, hb, mg.row, mg.ne, sb, sg, by omega, by omega, by omega, hl.low (by omega), rfl⟩ (hnx _ ?_)
  refine seq_go fun nx hnx => ?_
  walk_at "dl"
  refine hnx _ ?_
  refine seq_go fun nx hnx => ?_
  have fl := bpF_len (2 * (gcd b (trim (dR b))).length + (quo b (gcd b (trim (dR b)))).length) (gcd b (trim (dR b))) (quo b (gcd b (trim (dR b)))) 1
  have ql := quo_len hb mg.row mg.ne
  have eL : bpL b = bpF (2 * (gcd b (trim (dR b))).length + (quo b (gcd b (trim (dR b)))).length) (gcd b (trim (dR b))) (quo b (gcd b (trim (dR b)))) 1 := rfl
  have len : (bpL b).length ≤ 100 := by rw [eL]; omega
  refine wh_inv (fun (n : Nat) (Γ : Ct) => ∃ (pre : List (List Rat × Nat)) (both left : List Rat) (k : Nat) (e5 e6 : En), bpL b = pre ++ bpF n both left k ∧ 2 * both.length + left.length ≤ n ∧ BpS b both left k ∧ Sr (bX m L) left ∧ Γ = [.im (rowD b), .own (pre.map prD), .im (rowD both), .im (rowD left), .im (.int k), e5, e6]) (fun n nx' Γ hn' hI => ?_) ⟨[], _, _, 1, .no, .no, rfl, Nat.le_refl _, S0, t1.up (by omega), rfl⟩
  obtain ⟨pre, both, left, k, e5, e6, eq, hmn, S, sl, rfl⟩ := hI
  obtain ⟨db, dl⟩ := S.dvd hb b0
  have N := S.next
  have lboth := (db.len S.mb.row hb b0).2
  have lleft := (dl.len S.rl hb b0).2
  have sboth : Sr m both := pd _ S.mb db
  have bpos := S.mb.pos
  show (match decide ((1 : Int) < (((left.map frD).length : Nat) : Int)) with
    | true => _
    | false => nx _)
  rw [List.length_map]
  cases n with
  | zero => omega
  | succ n =>
    rw [bpF] at eq
    by_cases hlen : left.length ≤ 1
    · rw [if_pos hlen, List.append_nil] at eq
      rw [decide_eq_false (by omega)]
      refine hnx _ ?_
      rw [eq]
      rfl
    · rw [if_neg hlen] at eq
      rw [decide_eq_true (by omega)]
      obtain ⟨S2, _⟩ := S.step
      obtain ⟨db2, dl2⟩ := S2.dvd hb b0
      have sst : Sr m (gcd left both) := pd _ N.ms dl2
      have mpos := N.ms.pos
      have hmeas : 2 * (quo both (gcd left both)).length + (gcd left both).length ≤ n := by
        rcases N.meas with h | h <;> omega
      have ppos := List.length_pos_iff.mpr N.p0
      have lpp := N.lp
      have lbb := N.lb
      have d2 := dk (left.length + 1 - (gcd left both).length) (by omega)
      have d3 := dk (both.length + 1 - (gcd left both).length) (by omega)
      obtain ⟨_, t2⟩ := dv_bits (d := left.length + 1 - (gcd left both).length) S.rl N.ms.row N.ms.ne sl sst (by omega)
      have N1 := N.ms.row
      have N2 := N.ms.ne
      have N3 := N.p0
      have N4 := N.rp
      have N5 := N.mb
      have hstep : ∀ pre2 : List (List Rat × Nat), bpL b = pre2 ++ bpF n (quo both (gcd left both)) (gcd left both) (k + 1) → ∀ (e5 e6 : En), nx' [.im (rowD b), .own (pre2.map prD), .im (rowD (quo both (gcd left both))), .im (rowD (gcd left both)), .im (.int ((k : Int) + 1)), e5, e6] := fun pre2 h2 e5 e6 =>
        hn' n _ (Nat.lt_succ_self _) ⟨pre2, _, _, k + 1, e5, e6, h2, hmeas, S2, sst.up (by omega), rfl⟩
      refine seq_go fun nx2 hnx2 => ?_
      walk_at "dl"
      refine call_ok ⟨left, both, bX m L, L, rfl, S.rl, S.mb.row, by omega, by omega, hL, sl, sboth.up (by omega), hl, rfl⟩ (hnx2 _ ?_)
      generalize gcd left both = still at sst mpos hmeas lpp lbb d2 d3 t2 N1 N2 N3 N4 N5 ppos eq hstep ⊢
      refine seq_go fun nx2 hnx2 => ?_
      walk_at "dl"
      refine call_ok ⟨left, still, bX m L, m, left.length + 1 - still.length, rfl, S.rl, N1, N2, sl, sst, by omega, by omega, by omega, hl.low (by omega), rfl⟩ (hnx2 _ ?_)
      refine seq_go fun nx2 hnx2 => ?_
      have go : ∀ pre2 : List (List Rat × Nat), bpL b = pre2 ++ bpF n (quo both still) still (k + 1) → nx2 [.im (rowD b), .own (pre2.map prD), .im (rowD both), .im (rowD left), .im (.int k), .im (rowD still), .im (rowD (quo left still))] := fun pre2 h2 => by
        refine hnx2 _ ?_
        refine seq_go fun nx3 hnx3 => ?_
        walk_at "dl"
        refine call_ok ⟨both, still, m, m, both.length + 1 - still.length, rfl, S.mb.row, N1, N2, sboth, sst, by omega, by omega, by omega, hl.low (by omega), rfl⟩ (hnx3 _ ?_)
        refine seq_go fun nx4 hnx4 => ?_
        walk_at "dl"
        refine hnx4 _ ?_
        walk_at "dl"
        exact hstep pre2 h2 _ _
      by_cases hp : 1 < (quo left still).length
      · rw [if_pos hp] at eq
        refine if_true (fun P hP => ?_) ?_
        · show P (decide ((1 : Int) < ((((quo left still).map frD).length : Nat) : Int)))
          rw [List.length_map, decide_eq_true (by omega)]
          exact hP
        · walk_at "dl"
          refine call_ok ⟨quo left still, _, rfl, N4, t2.az, hl.low (by omega), by omega, rfl⟩ ⟨?_, ?_⟩
          · have := congrArg List.length eq
            rw [List.length_append] at this
            rw [List.length_map]
            exact line_lt (by omega)
          · have := go (pre ++ [(ledR (quo left still), k)]) (by rw [eq, List.append_assoc])
            rw [List.map_append] at this
            exact this
      · rw [if_neg hp, List.nil_append] at eq
        refine if_false (fun P hP => ?_) ?_
        · show P (decide ((1 : Int) < ((((quo left still).map frD).length : Nat) : Int)))
          rw [List.length_map, decide_eq_false (by omega)]
          exact hP
        · exact go pre eq
theorem pure_cut (py : Prop) (ds : List D) (r : Res) (h : R_cut py ds r) : w_cut (fun g => r = .err g) py (endsOf r) (startΓ ["part", "row", "both", "piece"] ds) := by
  obtain ⟨d, row, m, L, rfl, sd, hr, ld, lr, hL, s1, s2, hl, rfl⟩ := h
  have C := cut_facts sd hr
  have hm := sr_pos s1
  have mz := le_zB m L
  have sg := gcd_sz sd.m.row hr s1 s2 ld lr hL hm
  have lg := (C.gd.len C.mg.row sd.m.row sd.m.ne).2
  have gp := C.mg.pos
  obtain ⟨e1, _⟩ := gB_div (m := m) (L := L) (a := m) (b := zB m (2 * L)) (d := d.length + 1 - (gcd d row).length) (by omega) (Nat.le_refl _) (by omega)
  unfold w_cut
  refine seq_go fun nx hnx => ?_
  walk_at "dl"
  refine call_ok ⟨d, row, m, L, rfl, sd.m.row, hr, ld, lr, hL, s1, s2, hl, rfl⟩ (hnx _ ?_)
  unfold lLc iLst
  rw [one_row]
  walk_at "dl"
  refine call_ok ⟨d, gcd d row, m, _, d.length + 1 - (gcd d row).length, rfl, sd.m.row, C.mg.row, C.mg.ne, s1, sg, by omega, by omega, by omega, hl.low (by omega), rfl⟩ ⟨rfl, ?_⟩
  have keep : ∀ (e : List Rat) (Q : D → Prop) (R : Prop), (e ≠ [1] → Q (rowD e)) → (e = [1] → R) → dName 3 (rowD e) [.im (rowD d), .im (rowD row), .im (rowD (gcd d row)), .no] fun Γ' => tBl (eOp dNe (eVar 3) (eC (rowD [1]))) Γ' fun c => match c with
      | true => eVar 3 Γ' Q
      | false => R := fun e Q R h1 h2 => by
    walk_at "dl"
    refine And.intro ⟨shaped_row e, shaped_row [1]⟩ ?_
    rw [eqv_row]
    by_cases h : e = [1]
    · rw [decide_eq_true h]
      exact h2 h
    · rw [decide_eq_false h]
      exact h1 h
  show wLc _ (dName 3) _ _ _ [rowD (gcd d row), rowD (quo d (gcd d row))] []
  unfold cutL
  generalize quo d (gcd d row) = q
  generalize gcd d row = g at keep ⊢
  rw [wLc]
  refine keep _ _ _ (fun h1 => ⟨line_lt (by show 0 ≤ _; omega), ?_⟩) (fun h1 => ?_)
  · rw [wLc]
    refine keep _ _ _ (fun h2 => ⟨line_lt (by show 1 ≤ _; omega), ?_⟩) (fun h2 => ?_)
    · show Res.ok _ = Res.ok _
      simp [h1, h2, wLc]
    · show Res.ok _ = Res.ok _
      simp [h1, h2, wLc]
  · rw [wLc]
    refine keep _ _ _ (fun h2 => ⟨line_lt (by show 0 ≤ _; omega), ?_⟩) (fun h2 => ?_)
    · show Res.ok _ = Res.ok _
      simp [h1, h2, wLc]
    · show Res.ok _ = Res.ok _
      simp [h1, h2, wLc]
theorem pcR_snoc : ∀ (told : List (List Rat)) (r d : List Rat), pcR (told ++ [r]) d = (pcR told d).flatMap fun c => cutL c r
  | [], r, d => by
    show (cutL d r).flatMap (pcR []) = [d].flatMap _
    have : pcR [] = fun c => [c] := rfl
    rw [this]
    simp
  | t :: told, r, d => by
    show (cutL d t).flatMap (pcR (told ++ [r])) = ((cutL d t).flatMap (pcR told)).flatMap _
    rw [List.flatMap_assoc]
    congr 1
    funext c
    exact pcR_snoc told r c
theorem cutL_len (d r : List Rat) : (cutL d r).length ≤ 2 := Nat.le_trans (List.length_filter_le _ _) (Nat.le_refl _)
theorem flat_len2 {f : List Rat → List (List Rat)} {n : Nat} : ∀ l : List (List Rat), (∀ c ∈ l, (f c).length ≤ n) → (l.flatMap f).length ≤ l.length * n
  | [], _ => by rw [List.flatMap_nil]; exact Nat.zero_le _
  | c :: l, h => by
    have h1 := flat_len2 l fun c hc => h c (List.mem_cons_of_mem _ hc)
    have h2 := h c (List.mem_cons_self ..)
    rw [List.flatMap_cons, List.length_append, List.length_cons, Nat.succ_mul]
    omega
theorem pcR_len : ∀ (told : List (List Rat)) (d : List Rat), (pcR told d).length ≤ 2 ^ told.length
  | [], d => Nat.le_refl _
  | t :: told, d => by
    have h := flat_len2 (f := pcR told) (cutL d t) fun c _ => pcR_len told c
    have h2 := cutL_len d t
    rw [List.length_cons, Nat.pow_succ, Nat.mul_comm]
    exact Nat.le_trans h (Nat.mul_le_mul_right _ h2)
theorem pure_parts_of (py : Prop) (ds : List D) (r : Res) (h : R_parts_of py ds r) : w_parts_of (fun g => r = .err g) py (endsOf r) (startΓ ["bottom", "told", "found", "part", "power", "pieces", "row", "cuts", "piece"] ds) := by
  obtain ⟨b, told, m, L, rfl, hb, b0, lb, hL, sb, pd, ht, tl, hl, rfl⟩ := h
  have hm := sr_pos sb
  have bp := List.length_pos_iff.mpr b0
  have xm := bX_le (m := m) (L := L) hm (by omega)
  have S := bpL_spec hb b0
  have Q := bpL_sqf hb b0
  have Dv := bpL_div hb b0
  have hr : ∀ t ∈ told, IsRow t := fun t h => (ht t h).1
  have lgB : Lim py (gB m L) := hl.low (gB_mono (by omega))
  have len : (bpL b).length ≤ 100 := by
    have fl := bpF_len (2 * (gcd b (trim (dR b))).length + (quo b (gcd b (trim (dR b)))).length) (gcd b (trim (dR b))) (quo b (gcd b (trim (dR b)))) 1
    have F := shT_facts hb (row_trim (dR b))
    have mg := mon_gcd hb (row_trim (dR b)) (.inl b0)
    have ql := quo_len hb mg.row mg.ne
    have lg := (Dvd.len mg.row hb b0 F.dp).2
    have eL : bpL b = bpF (2 * (gcd b (trim (dR b))).length + (quo b (gcd b (trim (dR b)))).length) (gcd b (trim (dR b))) (quo b (gcd b (trim (dR b)))) 1 := rfl
    rw [eL]
    omega
  unfold w_parts_of
  refine seq_go fun nx hnx => ?_
  walk_at "dl"
  refine hnx _ ?_
  refine seq_go fun nx hnx => ?_
  try unfold wFor iLst
  walk_at "dl"
  refine call_ok ⟨b, m, L, rfl, hb, b0, lb, hL, sb, pd, hl, rfl⟩ ?_
  have p2 : 2 ^ told.length ≤ 2 ^ 8 := Nat.pow_le_pow_right (by decide) tl
  have p2 : 2 ^ told.length ≤ 256 := p2
  refine for_inv (fun (i : Nat) (Γ : Ct) => i ≤ (bpL b).length ∧ ((((bpL b).take i).flatMap fun e => (pcR told e.1).map fun d => (d, e.2)).length ≤ i * 256) ∧ ∃ e3 e4 e5 e6 e7 e8 : En, Γ = [.im (rowD b), .im (.list (told.map rowD)), .im (.list ((((bpL b).take i).flatMap fun e => (pcR told e.1).map fun d => (d, e.2)).map prD)), e3, e4, e5, e6, e7, e8] ∧ noOwn Γ [3, 4, 5, 6, 7, 8] = true) (fun i d nx' Γ hd hn' hI => ?_) (fun Γ hI => ?_) ⟨Nat.zero_le _, Nat.zero_le _, .no, .no, .no, .no, .no, .no, rfl, rfl⟩
  · obtain ⟨_, fl, e3, e4, e5, e6, e7, e8, rfl, hno⟩ := hI
    rw [List.getElem?_map] at hd
    obtain ⟨e, he, rfl⟩ := Option.map_eq_some_iff.mp hd
    have hi : i < (bpL b).length := (List.getElem?_eq_some_iff.mp he).1
    have hm1 := List.mem_of_getElem? he
    have sq := Q e hm1
    have dv := Dv e hm1
    have le := (dv.len sq.m.row hb b0).2
    have tk : (bpL b).take (i + 1) = (bpL b).take i ++ [e] := by rw [List.take_succ, he]; rfl
    have pl := pcR_len told e.1
    simp -implicitDefEqProofs only [prD, dTupT, dCons, dNil, dName, List.set]
    refine seq_go fun nx2 hnx2 => ?_
    walk_at "dl"
    refine hnx2 _ ?_
    refine seq_go fun nx2 hnx2 => ?_
    try unfold wFor iLst
    walk_at "dl"
    refine for_inv (fun (j : Nat) (Γ : Ct) => j ≤ told.length ∧ ∃ e6 e7 e8 : En, Γ = [.im (rowD b), .im (.list (told.map rowD)), .im (.list ((((bpL b).take i).flatMap fun e => (pcR told e.1).map fun d => (d, e.2)).map prD)), .im (rowD e.1), .im (.int e.2), .im (.list ((pcR (told.take j) e.1).map rowD)), e6, e7, e8] ∧ noOwn Γ [6, 7, 8] = true) (fun j d nx3 Γ hd hn3 hI => ?_) (fun Γ hI => ?_) ⟨Nat.zero_le _, e6, e7, e8, rfl, ?_⟩
    · obtain ⟨_, e6, e7, e8, rfl, hno⟩ := hI
      rw [List.getElem?_map] at hd
      obtain ⟨row, hrow, rfl⟩ := Option.map_eq_some_iff.mp hd
      have hj : j < told.length := (List.getElem?_eq_some_iff.mp hrow).1
      have hm2 := List.mem_of_getElem? hrow
      obtain ⟨rr, lr, sr⟩ := ht row hm2
      have tk2 : told.take (j + 1) = told.take j ++ [row] := by rw [List.take_succ, hrow]; rfl
      have hr2 : ∀ t ∈ told.take j, IsRow t := fun t h => hr t (List.mem_of_mem_take h)
      have pc := fun c hc => pc_dvd (told.take j) e.1 c sq hr2 hc
      have pl2 := pcR_len (told.take j) e.1
      have p3 : 2 ^ (told.take j).length ≤ 2 ^ 8 := Nat.pow_le_pow_right (by decide) (by rw [List.length_take]; omega)
      have p3 : 2 ^ (told.take j).length ≤ 256 := p3
      rw [show pcR (told.take (j + 1)) e.1 = (pcR (told.take j) e.1).flatMap fun c => cutL c row by rw [tk2, pcR_snoc]] at hn3
      generalize pcR (told.take j) e.1 = ps at pc pl2 hn3 ⊢
      simp -implicitDefEqProofs only [dName, List.set]
      refine seq_go fun nx4 hnx4 => ?_
      walk_at "dl"
      refine hnx4 _ ?_
      refine seq_go fun nx4 hnx4 => ?_
      try unfold wFor iLst
      walk_at "dl"
      refine for_inv (fun (t : Nat) (Γ : Ct) => t ≤ ps.length ∧ ∃ e8 : En, Γ = [.im (rowD b), .im (.list (told.map rowD)), .im (.list ((((bpL b).take i).flatMap fun e => (pcR told e.1).map fun d => (d, e.2)).map prD)), .im (rowD e.1), .im (.int e.2), .im (.list (ps.map rowD)), .im (rowD row), .im (.list (((ps.take t).flatMap fun c => cutL c row).map rowD)), e8] ∧ noOwn Γ [8] = true) (fun t d nx5 Γ hd hn5 hI => ?_) (fun Γ hI => ?_) ⟨Nat.zero_le _, e8, rfl, ?_⟩
      · obtain ⟨_, e8, rfl, hno⟩ := hI
        rw [List.getElem?_map] at hd
        obtain ⟨c, hc, rfl⟩ := Option.map_eq_some_iff.mp hd
        have ht2 : t < ps.length := (List.getElem?_eq_some_iff.mp hc).1
        obtain ⟨sc, dc⟩ := pc c (List.mem_of_getElem? hc)
        have lc := (dc.len sc.m.row sq.m.row sq.m.ne).2
        have tk3 : ps.take (t + 1) = ps.take t ++ [c] := by rw [List.take_succ, hc]; rfl
        have fl2 := flat_len2 (f := fun c => cutL c row) (n := 2) (ps.take t) fun c _ => cutL_len c row
        rw [List.length_take] at fl2
        have cl := cutL_len c row
        walk_at "dl"
        refine call_ok ⟨c, row, m, L, rfl, sc, rr, by omega, lr, hL, pd c sc.m (dc.trans dv), sr, lgB, rfl⟩ ⟨line_le ?_, hn5 _ ⟨ht2, .im (rowD c), ?_, rfl⟩⟩
        · rw [List.length_map, List.length_map]; omega
        · rw [tk3, List.flatMap_append, List.map_append, List.flatMap_singleton]
      · obtain ⟨_, e8, rfl, hno⟩ := hI
        refine hnx4 _ ?_
        rw [List.length_map, List.take_length]
        walk_at "dl"
        exact hn3 _ ⟨hj, _, _, _, rfl, by
          cases e8 with
          | own x => exact absurd hno (by simp [noOwn])
          | _ => rfl⟩
      · cases e8 with
        | own x => exact absurd (show noOwn _ [6, 7, 8] = true from hno) (by simp [noOwn])
        | _ => rfl
    · obtain ⟨_, e6, e7, e8, rfl, hno⟩ := hI
      refine hnx2 _ ?_
      rw [List.length_map, List.take_length]
      unfold lLc
      try unfold iLst
      walk_at "dl"
      have no8 : noOwn [En.im (rowD b), En.im (.list (told.map rowD)), En.im (.list ((((bpL b).take i).flatMap fun e => (pcR told e.1).map fun d => (d, e.2)).map prD)), En.im (rowD e.1), En.im (.int e.2), En.im (.list ((pcR told e.1).map rowD)), e6, e7, e8] [8] = true := by
        cases e8 with
        | own x => exact absurd hno (by simp [noOwn])
        | _ => rfl
      refine ⟨no8, ?_⟩
      refine lc_get _ (((pcR told e.1).map fun d => (d, e.2)).map prD) [] (by rw [List.length_map, List.length_map, List.length_map]) (fun t d y hd hy Q' R hQ => ?_) (by rw [List.length_map]; exact line_le (by show 0 + _ ≤ _; omega)) ?_
      · rw [List.getElem?_map] at hd
        obtain ⟨c, hc, rfl⟩ := Option.map_eq_some_iff.mp hd
        rw [List.getElem?_map, List.getElem?_map, hc] at hy
        cases hy
        unfold tYesD
        exact hQ
      · rw [List.nil_append]
        refine ⟨line_le ?_, hn' _ ⟨hi, ?_, .im (rowD e.1), .im (.int e.2), .im (.list ((pcR told e.1).map rowD)), e6, e7, e8, ?_, ?_⟩⟩
        · rw [List.length_map, List.length_map, List.length_map]; omega
        · rw [tk, List.flatMap_append, List.length_append, List.flatMap_singleton, List.length_map]; omega
        · rw [tk, List.flatMap_append, List.map_append, List.flatMap_singleton]
        · cases e6 with
          | own x => exact absurd hno (by simp [noOwn])
          | _ => cases e7 with
            | own x => exact absurd hno (by simp [noOwn])
            | _ => cases e8 with
              | own x => exact absurd hno (by simp [noOwn])
              | _ => rfl
    · cases e6 with
      | own x => exact absurd hno (by simp [noOwn])
      | _ => cases e7 with
        | own x => exact absurd hno (by simp [noOwn])
        | _ => cases e8 with
          | own x => exact absurd hno (by simp [noOwn])
          | _ => rfl
  · obtain ⟨_, fl, e3, e4, e5, e6, e7, e8, rfl, hno⟩ := hI
    refine hnx _ ?_
    rw [List.length_map, List.take_length]
    rfl
theorem pure_parts (py : Prop) (ds : List D) (r : Res) (h : R_parts py ds r) : w_parts (fun g => r = .err g) py (endsOf r) (startΓ ["bottom", "told"] ds) := by
  obtain ⟨d, xs, rfl, lx, h⟩ := h
  unfold w_parts
  have all1 : ([d] ++ xs).all isRow = (isRow d && xs.all isRow) := by rw [List.all_append, List.all_cons, List.all_nil, Bool.and_true]
  refine seq_go fun nx hnx => ?_
  walk_at "dl"
  refine ⟨line_le (by show 1 + _ ≤ _; omega), ?_⟩
  rcases h with ⟨h1, rfl⟩ | ⟨rfl, h1, rfl⟩ | ⟨b, told, rfl, rfl, hb, b0, ht, hp⟩
  · exact call_err 1 ⟨_, rfl, by rw [if_neg]; show ¬ ([d] ++ xs).all isRow = true; rw [all1, h1]; decide⟩ rfl
  · refine call_ok ⟨_, rfl, by rw [if_pos]; show ([_] ++ xs).all isRow = true; rw [all1, h1]; rfl⟩ (hnx _ ?_)
    refine seq_go fun nx hnx => ?_
    rfl
  · refine call_ok (d := .none) ⟨_, rfl, ?_⟩ (hnx _ ?_)
    · rw [if_pos]
      show ([_] ++ told.map rowD).all isRow = true
      rw [all1, isRow_rowD hb, Bool.true_and, List.all_map, List.all_eq_true]
      exact fun t h => isRow_rowD (ht t h)
    · refine seq_go fun nx hnx => ?_
      have l0 : 0 < b.length := List.length_pos_iff.mpr b0
      show (match decide (((b.map frD).length : Int) = 0) with
        | true => _
        | false => nx _)
      rw [List.length_map, decide_eq_false (by omega)]
      refine hnx _ ?_
      walk_at "dl"
      refine ⟨r, hp, ?_⟩
      cases r <;> rfl
end DL

set_option linter.all false
set_option autoImplicit false
set_option maxRecDepth 10000
set_option maxHeartbeats 400000
namespace DL
open PySem PySem.Spec L2
local macro_rules | `(tactic| walk_at "dl") => `(tactic| simp -implicitDefEqProofs only [wSeq, wNext, wSet, wSetL, wAsg, wPar, parD, wRet, wExpr, wApp, wSetIx, wIf, wFrz, wRaise, wBreak, wCont, eVar, eC, eOp, tBl, dI, dB, dAdd, dSub, dMul, dFdiv, dMod, dPow, eNeg, dLt, dLe, dGt, dGe, dEq, dNe, dIs, dIsNot, eAnd, eOr, eNot, tAndD, tOrD, tNotD,
  aNil, aCons, eTup, eLst, lLst, eL, dIx, eSl, dSl, oNo, oSome, eCB, cLen, cAbs, cMax, cMin, cTuple, cList, cInt, eIsi, isiD, dName, dTupT, dCons, dNil, eCell, cellP, eIxO, eLenO, eCall, startΓ, startS, List.getElem?_cons_zero, List.getElem?_cons_succ, List.set, List.map, List.length, List.replicate, List.append, List.cons_append, List.nil_append, Nat.sub_self, Nat.reduceAdd, Nat.reduceSub, true_and, ixD_0, ixD_1, ixD_2, ixD_3, ixD_4, ixD_5, ixD_6, ixD_7, ixD_8, ixD_9, ixD_10, ixD_11, ixD_12, ixD_13, ixD_14, ixD_15, ixD_16, ixD_17, ixD_18, ixD_19])
/-! ### the laws' bottoms and told rows -/
def zdeg (Z : List (List Rat × Nat)) : Nat := (Z.map fun e => (e.1.length - 1) * e.2).sum
def zpow (Z : List (List Rat × Nat)) : Nat := (Z.map fun e => e.2).sum
theorem zdeg_snoc (Z : List (List Rat × Nat)) (e : List Rat × Nat) : zdeg (Z ++ [e]) = zdeg Z + (e.1.length - 1) * e.2 := by
  unfold zdeg
  rw [List.map_append, List.sum_append]
  show _ + ((e.1.length - 1) * e.2 + 0) = _
  omega
theorem zpow_snoc (Z : List (List Rat × Nat)) (e : List Rat × Nat) : zpow (Z ++ [e]) = zpow Z + e.2 := by
  unfold zpow
  rw [List.map_append, List.sum_append]
  show _ + (e.2 + 0) = _
  omega
structure BotF (Z : List (List Rat × Nat)) : Prop where
  m : Mon (PR Z)
  l : (PR Z).length ≤ 1 + zdeg Z
  d : Pd (1 + 6 * Z.length + 28 * zpow Z) (PR Z)
  pd : zpow Z ≤ zdeg Z
theorem rev_ind {α : Type} {P : List α → Prop} (h0 : P []) (hs : ∀ l a, P l → P (l ++ [a])) (l : List α) : P l := by
  suffices z : ∀ n, P (l.take n) by
    have := z l.length
    rw [List.take_length] at this
    exact this
  intro n
  induction n with
  | zero => rw [List.take_zero]; exact h0
  | succ n ih =>
    rw [List.take_succ]
    cases l[n]? with
    | none => show P (_ ++ []); rw [List.append_nil]; exact ih
    | some a => exact hs _ a ih
theorem bot_facts (Z : List (List Rat × Nat)) : (∀ e ∈ Z, Fac e.1 ∧ Irr e.1) → zdeg Z ≤ 30 → BotF Z := by
  refine rev_ind (P := fun Z => (∀ e ∈ Z, Fac e.1 ∧ Irr e.1) → zdeg Z ≤ 30 → BotF Z) (fun _ _ => ⟨Mon.one, Nat.le_refl _, Pd.one, Nat.le_refl _⟩) (fun Z e ih hf hz => ?_) Z
  rw [zdeg_snoc] at hz
  obtain ⟨m, l, d, pd⟩ := ih (fun c hc => hf c (List.mem_append_left _ hc)) (by omega)
  obtain ⟨fe, ie⟩ := hf e (List.mem_append_right _ (List.mem_singleton.mpr rfl))
  have l2 := fe.l2
  have h1 := powR_len e.1 e.2 (by omega)
  have h2 := mulR_len (PR Z) (powR e.1 e.2)
  have h3 : e.2 ≤ (e.1.length - 1) * e.2 := Nat.le_mul_of_pos_left _ (by omega)
  refine ⟨by rw [PR_snoc]; exact m.mul (powR_mon ie.m _), by rw [PR_snoc, zdeg_snoc]; omega, ?_, by rw [zpow_snoc, zdeg_snoc]; omega⟩
  rw [PR_snoc]
  refine (d.mul ie fe.s m e.2 (by omega)).up ?_
  rw [zpow_snoc, List.length_append]
  show _ ≤ 1 + 6 * (Z.length + 1) + _
  omega
theorem zip_snoc {α β : Type} : ∀ (fs : List α) (l : List β) (p : β) (f : α), fs[l.length]? = some f → fs.zip (l ++ [p]) = fs.zip l ++ [(f, p)]
  | [], l, p, f, h => by cases h
  | a :: fs, [], p, f, h => by
    have : some a = some f := h
    rw [Option.some.inj this]
    show (f, p) :: fs.zip [] = [(f, p)]
    rw [List.zip_nil_right]
  | a :: fs, b :: l, p, f, h => by
    show (a, b) :: fs.zip (l ++ [p]) = (a, b) :: (fs.zip l ++ [(f, p)])
    rw [zip_snoc fs l p f h]
def natsD (ps : List Nat) : D := .list (ps.map fun p => PyData.int ((p : Nat) : Int))
def pwM (xs : List Int) : Int := if xs.getD 0 0 % 8 = 0 then 10 else 3
def pwI (xs : List Int) (room : Int) (k size : Nat) : Int := max 1 (min (1 + xs.getD (1 + k) 0 % pwM xs) (room / (size : Int)))
def pwR (xs : List Int) (fs : List (List Rat)) : Int := if xs.getD 0 0 % 16 = 0 ∧ fs.length = 1 ∧ (fs.getD 0 []).length = 2 then 10 else 5
def pwA (xs : List Int) (fs : List (List Rat)) : Nat → List Nat × Int
  | 0 => ([], pwR xs fs)
  | k + 1 => ((pwA xs fs k).1 ++ [(pwI xs (pwA xs fs k).2 k ((fs.getD k []).length - 1)).toNat], (pwA xs fs k).2 - (((fs.getD k []).length - 1 : Nat) : Int) * pwI xs (pwA xs fs k).2 k ((fs.getD k []).length - 1))
def pwL (x : Int) (fs : List (List Rat)) : List Nat := (pwA (stream x (fs.length + 1)) fs fs.length).1
structure PwF (xs : List Int) (fs : List (List Rat)) (k : Nat) (s : List Nat × Int) : Prop where
  l : s.1.length = k
  d : (zdeg (fs.zip s.1) : Int) + s.2 = pwR xs fs
  r : -3 * (k : Int) ≤ s.2
  u : s.2 ≤ 10
  p : ∀ p ∈ s.1, 1 ≤ p ∧ p ≤ 10
theorem pwI_le (xs : List Int) (room : Int) (k size : Nat) : 1 ≤ pwI xs room k size ∧ pwI xs room k size ≤ 10 := by
  unfold pwI pwM
  split
  · have h1 := Int.emod_nonneg (xs.getD (1 + k) 0) (show (10 : Int) ≠ 0 by decide)
    have h2 := Int.emod_lt_of_pos (xs.getD (1 + k) 0) (show (0 : Int) < 10 by decide)
    omega
  · have h1 := Int.emod_nonneg (xs.getD (1 + k) 0) (show (3 : Int) ≠ 0 by decide)
    have h2 := Int.emod_lt_of_pos (xs.getD (1 + k) 0) (show (0 : Int) < 3 by decide)
    omega
theorem pwR_le (xs : List Int) (fs : List (List Rat)) : 5 ≤ pwR xs fs ∧ pwR xs fs ≤ 10 := by unfold pwR; split <;> decide
theorem getD_fs (fs : List (List Rat)) {k : Nat} (h : k < fs.length) : fs.getD k [] = fs[k] := by rw [List.getD_eq_getElem?_getD, List.getElem?_eq_getElem h]; rfl
theorem pwI_room {xs : List Int} {room : Int} {k size : Nat} (hs : 1 ≤ size) (hs3 : size ≤ 3) (hr : -3 * (k : Int) ≤ room) : -3 * ((k : Int) + 1) ≤ room - (size : Int) * pwI xs room k size := by
  have h1 : pwI xs room k size ≤ max 1 (room / (size : Int)) := by unfold pwI; omega
  rcases Int.le_total 1 (room / (size : Int)) with h | h
  · have h2 : pwI xs room k size ≤ room / (size : Int) := by omega
    have h3 := Int.mul_le_mul_of_nonneg_left h2 (show (0 : Int) ≤ (size : Int) by omega)
    have h4 := Int.mul_ediv_self_le (x := room) (k := (size : Int)) (by omega)
    omega
  · have h2 : pwI xs room k size ≤ 1 := by omega
    have h3 := Int.mul_le_mul_of_nonneg_left h2 (show (0 : Int) ≤ (size : Int) by omega)
    omega
theorem pwA_facts (xs : List Int) (fs : List (List Rat)) (hf : ∀ f ∈ fs, Fac f) : ∀ k, k ≤ fs.length → PwF xs fs k (pwA xs fs k)
  | 0, _ => by
    have h := pwR_le xs fs
    refine ⟨rfl, ?_, by show -3 * ((0 : Nat) : Int) ≤ pwR xs fs; omega, h.2, (fun p hp => nomatch hp)⟩
    show (zdeg (fs.zip []) : Int) + pwR xs fs = _
    rw [List.zip_nil_right]
    show ((0 : Nat) : Int) + _ = _
    omega
  | k + 1, hk => by
    obtain ⟨f, hfk⟩ : ∃ f, fs[k]? = some f := ⟨_, List.getElem?_eq_getElem hk⟩
    have F := hf f (List.mem_of_getElem? hfk)
    have f2 := F.l2
    have f4 := F.l4
    have hg : fs.getD k [] = f := by rw [List.getD_eq_getElem?_getD, hfk]; rfl
    obtain ⟨l, d, r, u, p⟩ := pwA_facts xs fs hf k (by omega)
    rw [pwA, hg]
    generalize pwA xs fs k = s at l d r u p ⊢
    have i1 := pwI_le xs s.2 k (f.length - 1)
    have rm := pwI_room (xs := xs) (room := s.2) (k := k) (size := f.length - 1) (by omega) (by omega) r
    have mul1 : (1 : Int) * 1 ≤ ((f.length - 1 : Nat) : Int) * pwI xs s.2 k (f.length - 1) := Int.mul_le_mul (by omega) i1.1 (by omega) (by omega)
    have zs : fs.zip (s.1 ++ [(pwI xs s.2 k (f.length - 1)).toNat]) = fs.zip s.1 ++ [(f, (pwI xs s.2 k (f.length - 1)).toNat)] := zip_snoc fs s.1 _ f (by rw [l]; exact hfk)
    refine ⟨by rw [List.length_append, l]; rfl, ?_, by show -3 * ((k + 1 : Nat) : Int) ≤ s.2 - _; omega, by show s.2 - _ ≤ 10; omega, fun q hq => ?_⟩
    · show (zdeg (fs.zip (s.1 ++ _)) : Int) + (s.2 - _) = _
      rw [zs, zdeg_snoc]
      have : (((f.length - 1) * (pwI xs s.2 k (f.length - 1)).toNat : Nat) : Int) = ((f.length - 1 : Nat) : Int) * pwI xs s.2 k (f.length - 1) := by
        rw [Int.natCast_mul, Int.toNat_of_nonneg (by omega)]
      show ((zdeg (fs.zip s.1) + (f.length - 1) * (pwI xs s.2 k (f.length - 1)).toNat : Nat) : Int) + _ = _
      rw [Int.natCast_add, this]
      omega
    · rcases List.mem_append.mp hq with hq | hq
      · exact p q hq
      · rw [List.mem_singleton.mp hq]; omega
theorem pwL_len (x : Int) (fs : List (List Rat)) (hf : ∀ f ∈ fs, Fac f) : (pwL x fs).length = fs.length := (pwA_facts _ fs hf _ (Nat.le_refl _)).l
theorem pwL_le (x : Int) (fs : List (List Rat)) (hf : ∀ f ∈ fs, Fac f) : ∀ p ∈ pwL x fs, 1 ≤ p ∧ p ≤ 10 := (pwA_facts _ fs hf _ (Nat.le_refl _)).p
theorem pwL_deg (x : Int) (fs : List (List Rat)) (hf : ∀ f ∈ fs, Fac f) (h4 : fs.length ≤ 4) : zdeg (fs.zip (pwL x fs)) ≤ 22 := by
  obtain ⟨l, d, r, u, p⟩ := pwA_facts (stream x (fs.length + 1)) fs hf _ (Nat.le_refl _)
  have := pwR_le (stream x (fs.length + 1)) fs
  have e : pwL x fs = (pwA (stream x (fs.length + 1)) fs fs.length).1 := rfl
  rw [e]
  omega
def manyL : List Nat := [1, 1, 1, 2, 2, 2, 3, 4]
def manyN (x : Int) : Nat := manyL.getD (x % 8).toNat 0
def R__law_many (py : Prop) : List D → Res → Prop := fun ds r => ∃ x : Int, ds = [.int x] ∧ r = .ok (.int (manyN x))
def R__law_powers (py : Prop) : List D → Res → Prop := fun ds r => ∃ (x : Int) (fs : List (List Rat)), ds = [.int x, .list (fs.map rowD)] ∧ (∀ f ∈ fs, Fac f) ∧ fs.length ≤ 4 ∧ r = .ok (natsD (pwL x fs))
def R__law_bottom (py : Prop) : List D → Res → Prop := fun ds r => ∃ (fs : List (List Rat)) (ps : List Nat), ds = [.list (fs.map rowD), natsD ps] ∧ fs.length = ps.length ∧ ps.length ≤ 4 ∧ (∀ f ∈ fs, Fac f ∧ Irr f) ∧ (∀ p ∈ ps, p ≤ 10) ∧ zdeg (fs.zip ps) ≤ 30 ∧ Lim py 4000 ∧ r = .ok (rowD (PR (fs.zip ps)))
def prodSel (x : Int) (n0 : Rat) (fs : List (List Rat)) : Nat → List Rat
  | 0 => [n0]
  | j + 1 => if x / (8 + 5 * (j : Int)) % 2 = 0 then trim (mulL (prodSel x n0 fs j) (fs.getD j [])) else prodSel x n0 fs j
def tBase (xs : List Int) (fs : List (List Rat)) (k : Nat) : List Rat := if 1 < xs.getD (1 + 3 * k) 0 % 6 then prodSel (xs.getD (2 + 3 * k) 0) (Rat.divInt (1 + xs.getD (3 + 3 * k) 0 % 5) (1 + 6 * (xs.getD (1 + 3 * k) 0 % 6 % 2))) fs fs.length else rowBy (xs.getD (2 + 3 * k) 0) 3
def tRow (xs : List Int) (fs : List (List Rat)) (k : Nat) : List Rat := if xs.getD (1 + 3 * k) 0 % 6 = 5 ∧ (tBase xs fs k).length < 8 then trim (mulL (tBase xs fs k) (tBase xs fs k)) else tBase xs fs k
def toldN (xs : List Int) : Nat := if xs.getD 0 0 / 4 % 8 = 0 then 6 else (xs.getD 0 0 % 4).toNat
def toldL (x : Int) (fs : List (List Rat)) : List (List Rat) := (List.range (toldN (stream x 19))).map (tRow (stream x 19) fs)
def R__law_told (py : Prop) : List D → Res → Prop := fun ds r => ∃ (x : Int) (fs : List (List Rat)), ds = [.int x, .list (fs.map rowD)] ∧ (∀ f ∈ fs, Fac f) ∧ fs.length ≤ 4 ∧ Lim py 4000 ∧ r = .ok (.list ((toldL x fs).map rowD))
def w__law_powers (Ex : Nat → Prop) (py : Prop) : DS :=
  (wSeq (wSet 2 (eCall Ex (R__law_stream py) (aCons (eVar 0) (aCons (eOp dAdd (eCB cLen (aCons (eVar 1) aNil)) (eC (.int 1))) aNil))))
  (wSeq (wSet 3 (eOp dIx (eLst (aCons (eC (.int 5)) (aCons (eC (.int 10)) aNil))) (eCB cInt (aCons (eAnd (eOp dEq (eOp dMod (eOp dIx (eVar 2) (eC (.int 0))) (eC (.int 16))) (eC (.int 0))) (eAnd (eOp dEq (eCB cLen (aCons (eVar 1) aNil)) (eC (.int 1))) (eOp dEq (eCB cLen (aCons (eOp dIx (eVar 1) (eC (.int 0))) aNil)) (eC (.int 2))))) aNil))))
  (wSeq (wSetL 4 (lLst aNil))
  (wSeq (wFor (iR1 (aCons (eCB cLen (aCons (eVar 1) aNil)) aNil)) (dName 5)
  (wSeq (wSet 6 (eOp dSub (eCB cLen (aCons (eOp dIx (eVar 1) (eVar 5)) aNil)) (eC (.int 1))))
  (wSeq (wSet 7 (eOp dIx (eLst (aCons (eC (.int 3)) (aCons (eC (.int 10)) aNil))) (eCB cInt (aCons (eOp dEq (eOp dMod (eOp dIx (eVar 2) (eC (.int 0))) (eC (.int 8))) (eC (.int 0))) aNil))))
  (wSeq (wApp 4 (eCB cMax (aCons (eC (.int 1)) (aCons (eCB cMin (aCons (eOp dAdd (eC (.int 1)) (eOp dMod (eOp dIx (eVar 2) (eOp dAdd (eC (.int 1)) (eVar 5))) (eVar 7))) (aCons (eOp (dFdiv py) (eVar 3) (eVar 6)) aNil))) aNil))))
  (wSet 3 (eOp dSub (eVar 3) (eOp dMul (eVar 6) (eIxO 4 (eNeg (eC (.int 1)))))))))))
  (wFrz 4 (wRet (eVar 4)))))))

def w__law_many (Ex : Nat → Prop) (py : Prop) : DS :=
  (wRet (eOp dIx (eLst (aCons (eC (.int 1)) (aCons (eC (.int 1)) (aCons (eC (.int 1)) (aCons (eC (.int 2)) (aCons (eC (.int 2)) (aCons (eC (.int 2)) (aCons (eC (.int 3)) (aCons (eC (.int 4)) aNil))))))))) (eOp dMod (eVar 0) (eC (.int 8)))))

def w__law_bottom (Ex : Nat → Prop) (py : Prop) : DS :=
  (wSeq (wSet 2 (eTup (aCons (eTup (aCons (eC (.int 1)) (aCons (eC (.int 1)) aNil))) aNil)))
  (wSeq (wFor (iZp (aCons (eVar 0) (aCons (eVar 1) aNil))) (dTupT (dCons (dName 3) (dCons (dName 4) dNil)))
  (wSet 2 (eCall Ex (R__law_times py) (aCons (eVar 2) (aCons (eCall Ex (R__law_power py) (aCons (eVar 3) (aCons (eVar 4) aNil))) aNil)))))
  (wRet (eVar 2))))

def w__law_told (Ex : Nat → Prop) (py : Prop) : DS :=
  (wSeq (wSet 2 (eCall Ex (R__law_stream py) (aCons (eVar 0) (aCons (eC (.int 19)) aNil))))
  (wSeq (wSetL 3 (lLst aNil))
  (wSeq (wFor (iR1 (aCons (eOp dIx (eLst (aCons (eOp dMod (eOp dIx (eVar 2) (eC (.int 0))) (eC (.int 4))) (aCons (eC (.int 6)) aNil))) (eCB cInt (aCons (eOp dEq (eOp dMod (eOp (dFdiv py) (eOp dIx (eVar 2) (eC (.int 0))) (eC (.int 4))) (eC (.int 8))) (eC (.int 0))) aNil))) aNil)) (dName 4)
  (wSeq (wSet 5 (eOp dMod (eOp dIx (eVar 2) (eOp dAdd (eC (.int 1)) (eOp dMul (eC (.int 3)) (eVar 4)))) (eC (.int 6))))
  (wSeq (wSet 6 (eCall Ex (R__law_row_by py) (aCons (eOp dIx (eVar 2) (eOp dAdd (eC (.int 2)) (eOp dMul (eC (.int 3)) (eVar 4)))) (aCons (eC (.int 3)) aNil))))
  (wSeq (wIf (tBl (eOp dGt (eVar 5) (eC (.int 1))))
  (wSeq (wSet 6 (eTup (aCons (eTup (aCons (eOp dAdd (eC (.int 1)) (eOp dMod (eOp dIx (eVar 2) (eOp dAdd (eC (.int 3)) (eOp dMul (eC (.int 3)) (eVar 4)))) (eC (.int 5)))) (aCons (eOp dAdd (eC (.int 1)) (eOp dMul (eC (.int 6)) (eOp dMod (eVar 5) (eC (.int 2))))) aNil))) aNil)))
  (wFor (iR1 (aCons (eCB cLen (aCons (eVar 1) aNil)) aNil)) (dName 7)
  (wIf (tBl (eOp dEq (eOp dMod (eOp (dFdiv py) (eOp dIx (eVar 2) (eOp dAdd (eC (.int 2)) (eOp dMul (eC (.int 3)) (eVar 4)))) (eOp dAdd (eC (.int 8)) (eOp dMul (eC (.int 5)) (eVar 7)))) (eC (.int 2))) (eC (.int 0))))
  (wSet 6 (eCall Ex (R__law_times py) (aCons (eVar 6) (aCons (eOp dIx (eVar 1) (eVar 7)) aNil))))
  wNext)))
  wNext)
  (wSeq (wIf (tAndD (tBl (eOp dEq (eVar 5) (eC (.int 5)))) (tBl (eOp dLt (eCB cLen (aCons (eVar 6) aNil)) (eC (.int 8)))))
  (wSet 6 (eCall Ex (R__law_times py) (aCons (eVar 6) (aCons (eVar 6) aNil))))
  wNext)
  (wApp 3 (eVar 6)))))))
  (wFrz 3 (wRet (eVar 3))))))

theorem pure__law_many (py : Prop) (ds : List D) (r : Res) (h : R__law_many py ds r) : w__law_many (fun g => r = .err g) py (endsOf r) (startΓ ["_law_x"] ds) := by
  obtain ⟨x, rfl, rfl⟩ := h
  unfold w__law_many
  walk_at "dl"
  have h1 := Int.emod_nonneg x (show (8 : Int) ≠ 0 by decide)
  have h2 := Int.emod_lt_of_pos x (show (0 : Int) < 8 by decide)
  refine ⟨by decide, ?_⟩
  have hl : (x % 8).toNat < manyL.length := by show _ < 8; omega
  show ixD (manyL.map fun p => PyData.int ((p : Nat) : Int)) (x % 8) _
  refine ixD_at (x % 8).toNat (by omega) (v := .int (manyN x)) ?_ rfl
  rw [List.getElem?_map, List.getElem?_eq_getElem hl]
  unfold manyN
  rw [List.getD_eq_getElem?_getD, List.getElem?_eq_getElem hl]
  rfl
theorem manyN_le (x : Int) : 1 ≤ manyN x ∧ manyN x ≤ 4 := by
  have h1 := Int.emod_nonneg x (show (8 : Int) ≠ 0 by decide)
  have h2 := Int.emod_lt_of_pos x (show (0 : Int) < 8 by decide)
  unfold manyN
  rcases (by omega : (x % 8).toNat = 0 ∨ (x % 8).toNat = 1 ∨ (x % 8).toNat = 2 ∨ (x % 8).toNat = 3 ∨ (x % 8).toNat = 4 ∨ (x % 8).toNat = 5 ∨ (x % 8).toNat = 6 ∨ (x % 8).toNat = 7) with h | h | h | h | h | h | h | h <;> rw [h] <;> decide
theorem pure__law_bottom (py : Prop) (ds : List D) (r : Res) (h : R__law_bottom py ds r) : w__law_bottom (fun g => r = .err g) py (endsOf r) (startΓ ["_law_rows", "_law_powers_here", "_law_found", "_law_row", "_law_power_here"] ds) := by
  obtain ⟨fs, ps, rfl, hl, p4, hf, hp, hz, hlim, rfl⟩ := h
  have hz2 : ∀ n, (∀ e ∈ (fs.zip ps).take n, Fac e.1 ∧ Irr e.1) ∧ zdeg ((fs.zip ps).take n) ≤ zdeg (fs.zip ps) := fun n => by
    refine ⟨fun e he => ?_, ?_⟩
    · exact hf e.1 (List.of_mem_zip (List.mem_of_mem_take he)).1
    · have e : zdeg (fs.zip ps) = zdeg ((fs.zip ps).take n) + zdeg ((fs.zip ps).drop n) := by
        unfold zdeg
        rw [← List.sum_append, ← List.map_append, List.take_append_drop]
      omega
  unfold w__law_bottom natsD
  refine seq_go fun nx hnx => ?_
  walk_at "dl"
  refine hnx _ ?_
  refine seq_go fun nx hnx => ?_
  unfold wFor iZp
  walk_at "dl"
  refine ⟨by rw [List.length_map, List.length_map]; exact hl, ?_⟩
  refine for_inv (fun (i : Nat) (Γ : Ct) => ∃ e3 e4 : En, Γ = [.im (.list (fs.map rowD)), .im (.list (ps.map fun p => PyData.int ((p : Nat) : Int))), .im (rowD (PR ((fs.zip ps).take i))), e3, e4]) (fun i d nx' Γ hd hn' hI => ?_) (fun Γ hI => ?_) ⟨.no, .no, by rw [List.take_zero]; rfl⟩
  · obtain ⟨e3, e4, rfl⟩ := hI
    obtain ⟨x, y, hx, hy, rfl⟩ := zipW_get hd
    rw [List.getElem?_map] at hx hy
    obtain ⟨f, hf1, rfl⟩ := Option.map_eq_some_iff.mp hx
    obtain ⟨p, hp1, rfl⟩ := Option.map_eq_some_iff.mp hy
    have hzz : (fs.zip ps)[i]? = some (f, p) := by rw [List.getElem?_zip_eq_some]; exact ⟨hf1, hp1⟩
    have tk : (fs.zip ps).take (i + 1) = (fs.zip ps).take i ++ [(f, p)] := by rw [List.take_succ, hzz]; rfl
    have Ff := (hf f (List.mem_of_getElem? hf1)).1
    have pl := hp p (List.mem_of_getElem? hp1)
    have B := bot_facts _ (hz2 i).1 (Nat.le_trans (hz2 i).2 hz)
    have hz3 := (hz2 (i + 1)).2
    rw [tk, zdeg_snoc] at hz3
    have hz4 : (f.length - 1) * p ≤ 30 := by
      have : zdeg ((fs.zip ps).take i) + (f.length - 1) * p ≤ zdeg (fs.zip ps) := hz3
      omega
    have l2 := Ff.l2
    have l4 := Ff.l4
    have lp := powR_len f p (by omega)
    have sp := powR_sr (by omega) Ff.s hz4
    have sB := B.d _ B.m (.refl _)
    have lB := B.l
    have pd := B.pd
    have tl : ((fs.zip ps).take i).length ≤ 4 := by rw [List.length_take, List.length_zip]; omega
    have zz := (hz2 i).2
    walk_at "dl"
    refine call_ok ⟨f, 23, p, rfl, by omega, by omega, by omega, hz4, Ff.s, hlim.low (by omega), rfl⟩ ?_
    refine call_ok ⟨_, _, _, _, rfl, sB, sp, hlim.low (by omega), by omega, by omega, rfl⟩ ?_
    refine hn' _ ⟨.im (rowD f), .im (.int p), ?_⟩
    rw [tk, PR_snoc]
  · obtain ⟨e3, e4, rfl⟩ := hI
    refine hnx _ ?_
    rw [List.length_zipWith, List.length_map, List.length_map, ← List.length_zip, List.take_length]
    rfl
end DL

set_option linter.all false
set_option autoImplicit false
set_option maxRecDepth 10000
set_option maxHeartbeats 400000
namespace DL
open PySem PySem.Spec L2
local macro_rules | `(tactic| walk_at "dl") => `(tactic| simp -implicitDefEqProofs only [wSeq, wNext, wSet, wSetL, wAsg, wPar, parD, wRet, wExpr, wApp, wSetIx, wIf, wFrz, wRaise, wBreak, wCont, eVar, eC, eOp, tBl, dI, dB, dAdd, dSub, dMul, dFdiv, dMod, dPow, eNeg, dLt, dLe, dGt, dGe, dEq, dNe, dIs, dIsNot, eAnd, eOr, eNot, tAndD, tOrD, tNotD,
  aNil, aCons, eTup, eLst, lLst, eL, dIx, eSl, dSl, oNo, oSome, eCB, cLen, cAbs, cMax, cMin, cTuple, cList, cInt, eIsi, isiD, dName, dTupT, dCons, dNil, eCell, cellP, eIxO, eLenO, eCall, startΓ, startS, List.getElem?_cons_zero, List.getElem?_cons_succ, List.set, List.map, List.length, List.replicate, List.append, List.cons_append, List.nil_append, Nat.sub_self, Nat.reduceAdd, Nat.reduceSub, true_and, ixD_0, ixD_1, ixD_2, ixD_3, ixD_4, ixD_5, ixD_6, ixD_7, ixD_8, ixD_9, ixD_10, ixD_11, ixD_12, ixD_13, ixD_14, ixD_15, ixD_16, ixD_17, ixD_18, ixD_19])
theorem natsD_snoc (ps : List Nat) (p : Int) (h : 0 ≤ p) : (ps.map fun p => PyData.int ((p : Nat) : Int)) ++ [PyData.int p] = (ps ++ [p.toNat]).map fun p => PyData.int ((p : Nat) : Int) := by
  rw [List.map_append]
  show _ = _ ++ [PyData.int ((p.toNat : Nat) : Int)]
  rw [Int.toNat_of_nonneg h]
theorem max_one (i : Int) : (if i > 1 then i else 1) = max 1 i := by split <;> omega
theorem min_int (i j : Int) : (if j < i then j else i) = min i j := by split <;> omega
theorem pure__law_powers (py : Prop) (ds : List D) (r : Res) (h : R__law_powers py ds r) : w__law_powers (fun g => r = .err g) py (endsOf r) (startΓ ["_law_x", "_law_rows", "_law_xs", "_law_room", "_law_powers_here", "_law_k", "_law_size", "_law_most"] ds) := by
  obtain ⟨x, fs, rfl, hf, h4, rfl⟩ := h
  unfold w__law_powers
  refine seq_go fun nx hnx => ?_
  walk_at "dl"
  rw [List.length_map]
  refine call_ok ⟨x, fs.length + 1, by rw [Int.natCast_add]; rfl, by omega, rfl⟩ (hnx _ ?_)
  have get : ∀ k, k < fs.length + 1 → ((stream x (fs.length + 1)).map PyData.int)[k]? = some (.int ((stream x (fs.length + 1)).getD k 0)) := fun k hk => stream_get hk
  unfold pwL intsD
  generalize stream x (fs.length + 1) = xs at get ⊢
  have g0 := get 0 (by omega)
  refine seq_go fun nx hnx => ?_
  have room : nx [.im (.int x), .im (.list (fs.map rowD)), .im (.list (xs.map PyData.int)), .im (.int (pwR xs fs)), .no, .no, .no, .no] := by
    refine hnx _ ?_
    refine seq_go fun nx hnx => ?_
    walk_at "dl"
    refine hnx _ ?_
    refine seq_go fun nx hnx => ?_
    unfold wFor iR1
    walk_at "dl"
    rw [List.length_map]
    refine ⟨inR_of (by omega) (by omega), ?_⟩
    rw [Int.toNat_natCast]
    refine for_inv (fun (k : Nat) (Γ : Ct) => k ≤ fs.length ∧ ∃ e5 e6 e7 : En, Γ = [.im (.int x), .im (.list (fs.map rowD)), .im (.list (xs.map PyData.int)), .im (.int (pwA xs fs k).2), .own ((pwA xs fs k).1.map fun p => PyData.int ((p : Nat) : Int)), e5, e6, e7]) (fun k d nx' Γ hd hn' hI => ?_) (fun Γ hI => ?_) ⟨Nat.zero_le _, _, _, _, rfl⟩
    · obtain ⟨_, e5, e6, e7, rfl⟩ := hI
      obtain ⟨hk, rfl⟩ := rngD_at hd
      rw [Int.zero_add]
      obtain ⟨f, hfk⟩ : ∃ f, fs[k]? = some f := ⟨_, List.getElem?_eq_getElem hk⟩
      have F := hf f (List.mem_of_getElem? hfk)
      have f2 := F.l2
      have f4 := F.l4
      have hg : fs.getD k [] = f := by rw [List.getD_eq_getElem?_getD, hfk]; rfl
      have gf : (fs.map rowD)[k]? = some (rowD f) := by rw [List.getElem?_map, hfk]; rfl
      have A := pwA_facts xs fs hf k (by omega)
      have A2 : pwA xs fs (k + 1) = ((pwA xs fs k).1 ++ [(pwI xs (pwA xs fs k).2 k (f.length - 1)).toNat], (pwA xs fs k).2 - ((f.length - 1 : Nat) : Int) * pwI xs (pwA xs fs k).2 k (f.length - 1)) := by rw [pwA, hg]
      have al := A.l
      have ar := A.r
      have au := A.u
      rw [A2] at hn'
      generalize pwA xs fs k = s at A al ar au hn' ⊢
      have i1 := pwI_le xs s.2 k (f.length - 1)
      have rm := pwI_room (xs := xs) (room := s.2) (k := k) (size := f.length - 1) (by omega) (by omega) ar
      have mul1 : (1 : Int) * 1 ≤ ((f.length - 1 : Nat) : Int) * pwI xs s.2 k (f.length - 1) := Int.mul_le_mul (by omega) i1.1 (by omega) (by omega)
      have sz : (f.length : Int) - 1 = ((f.length - 1 : Nat) : Int) := by omega
      refine seq_go fun nx2 hnx2 => ?_
      walk_at "dl"
      refine ixD_at k rfl gf ?_
      unfold rowD
      dsimp only
      rw [List.length_map, sz]
      refine hnx2 _ ?_
      refine seq_go fun nx2 hnx2 => ?_
      have most : nx2 [.im (.int x), .im (.list (fs.map rowD)), .im (.list (xs.map PyData.int)), .im (.int s.2), .own (s.1.map fun p => PyData.int ((p : Nat) : Int)), .im (.int k), .im (.int ((f.length - 1 : Nat) : Int)), .im (.int (pwM xs))] := by
        refine hnx2 _ ?_
        have ml : 0 < pwM xs ∧ pwM xs ≤ 10 := by unfold pwM; split <;> decide
        have zs : 0 < ((f.length - 1 : Nat) : Int) ∧ (((f.length - 1 : Nat) : Int).natAbs.log2 < 9000 ∨ py) := by
          refine ⟨by omega, .inl ?_⟩
          rw [Nat.log2_lt (by omega)]
          exact Nat.lt_of_lt_of_le (m := 2 ^ 3) (by omega) (Nat.pow_le_pow_right (by decide) (by decide))
        refine seq_go fun nx3 hnx3 => ?_
        walk_at "dl"
        refine ixD_at (1 + k) (by omega) (get (1 + k) (by omega)) ⟨ml.1, zs, ?_⟩
        rw [min_int, max_one]
        have eI : max 1 (min (1 + xs.getD (1 + k) 0 % pwM xs) (s.2 / ((f.length - 1 : Nat) : Int))) = pwI xs s.2 k (f.length - 1) := rfl
        rw [eI]
        refine ⟨line_lt (by rw [List.length_map]; omega), hnx3 _ ?_⟩
        walk_at "dl"
        rw [ixD_last]
        dsimp only
        have big : ((f.length - 1 : Nat) : Int) * pwI xs s.2 k (f.length - 1) ≤ 3 * 10 := Int.mul_le_mul (by omega) i1.2 (by omega) (by omega)
        refine ⟨mulx_of (a := 8) (b := 8) (by omega) (by omega) (by decide), ?_⟩
        rw [natsD_snoc _ _ (by omega)]
        exact hn' _ ⟨hk, _, _, _, rfl⟩
      by_cases c0 : xs.getD 0 0 % 8 = 0
      · have e : pwM xs = 10 := if_pos c0
        rw [e] at most
        walk_at "dl"
        rw [g0]
        dsimp only
        refine ⟨by decide, ?_⟩
        rw [decide_eq_true c0]
        exact most
      · have e : pwM xs = 3 := if_neg c0
        rw [e] at most
        walk_at "dl"
        rw [g0]
        dsimp only
        refine ⟨by decide, ?_⟩
        rw [decide_eq_false c0]
        exact most
    · obtain ⟨_, e5, e6, e7, rfl⟩ := hI
      refine hnx _ ?_
      rw [rngD_length]
      rfl
  by_cases c0 : xs.getD 0 0 % 16 = 0
  · by_cases c1 : fs.length = 1
    · obtain ⟨f, rfl⟩ := List.length_eq_one_iff.mp c1
      by_cases c2 : f.length = 2
      · have e : pwR xs [f] = 10 := if_pos ⟨c0, rfl, c2⟩
        rw [e] at room
        walk_at "dl"
        rw [g0]
        dsimp only
        refine ⟨by decide, ?_⟩
        rw [decide_eq_true c0]
        unfold rowD
        dsimp only
        rw [List.length_map, c2]
        exact room
      · have e : pwR xs [f] = 5 := if_neg fun z => c2 z.2.2
        rw [e] at room
        walk_at "dl"
        rw [g0]
        dsimp only
        refine ⟨by decide, ?_⟩
        rw [decide_eq_true c0]
        unfold rowD
        dsimp only
        rw [List.length_map, decide_eq_false (show ¬ ((f.length : Int) = 2) by omega)]
        exact room
    · have e : pwR xs fs = 5 := if_neg fun z => c1 z.2.1
      rw [e] at room
      walk_at "dl"
      rw [g0]
      dsimp only
      refine ⟨by decide, ?_⟩
      rw [decide_eq_true c0, List.length_map, decide_eq_false (show ¬ ((fs.length : Int) = 1) by omega)]
      exact room
  · have e : pwR xs fs = 5 := if_neg fun z => c0 z.1
    rw [e] at room
    walk_at "dl"
    rw [g0]
    dsimp only
    refine ⟨by decide, ?_⟩
    rw [decide_eq_false c0]
    exact room
end DL

set_option linter.all false
set_option autoImplicit false
set_option maxRecDepth 10000
set_option maxHeartbeats 400000
namespace DL
open PySem PySem.Spec L2
local macro_rules | `(tactic| walk_at "dl") => `(tactic| simp -implicitDefEqProofs only [wSeq, wNext, wSet, wSetL, wAsg, wPar, parD, wRet, wExpr, wApp, wSetIx, wIf, wFrz, wRaise, wBreak, wCont, eVar, eC, eOp, tBl, dI, dB, dAdd, dSub, dMul, dFdiv, dMod, dPow, eNeg, dLt, dLe, dGt, dGe, dEq, dNe, dIs, dIsNot, eAnd, eOr, eNot, tAndD, tOrD, tNotD,
  aNil, aCons, eTup, eLst, lLst, eL, dIx, eSl, dSl, oNo, oSome, eCB, cLen, cAbs, cMax, cMin, cTuple, cList, cInt, eIsi, isiD, dName, dTupT, dCons, dNil, eCell, cellP, eIxO, eLenO, eCall, startΓ, startS, List.getElem?_cons_zero, List.getElem?_cons_succ, List.set, List.map, List.length, List.replicate, List.append, List.cons_append, List.nil_append, Nat.sub_self, Nat.reduceAdd, Nat.reduceSub, true_and, ixD_0, ixD_1, ixD_2, ixD_3, ixD_4, ixD_5, ixD_6, ixD_7, ixD_8, ixD_9, ixD_10, ixD_11, ixD_12, ixD_13, ixD_14, ixD_15, ixD_16, ixD_17, ixD_18, ixD_19])
theorem fr_small (a b : Int) (ha : 1 ≤ a) (ha5 : a ≤ 5) (hb : b = 1 ∨ b = 7) : PyData.tuple [.int a, .int b] = frD (Rat.divInt a b) ∧ Rat.divInt a b ≠ 0 ∧ Sz 3 (Rat.divInt a b) := by
  rcases (by omega : a = 1 ∨ a = 2 ∨ a = 3 ∨ a = 4 ∨ a = 5) with rfl | rfl | rfl | rfl | rfl <;> rcases hb with rfl | rfl <;> exact ⟨rfl, by decide, by decide, by decide⟩
structure SelF (j : Nat) (t : List Rat) : Prop where
  r : IsRow t
  l : t.length ≤ 1 + 3 * j
  s : Sr (3 + 28 * j) t
theorem sel_facts (x : Int) {n0 : Rat} (h0 : n0 ≠ 0) (s0 : Sz 3 n0) (fs : List (List Rat)) (hf : ∀ f ∈ fs, Fac f) (h4 : fs.length ≤ 4) : ∀ j, j ≤ fs.length → SelF j (prodSel x n0 fs j)
  | 0, _ => ⟨row_snoc [] h0, Nat.le_refl _, sr_single s0 0⟩
  | j + 1, hj => by
    have ih := sel_facts x h0 s0 fs hf h4 j (by omega)
    obtain ⟨f, hfk⟩ : ∃ f, fs[j]? = some f := ⟨_, List.getElem?_eq_getElem hj⟩
    have F := hf f (List.mem_of_getElem? hfk)
    have hg : fs.getD j [] = f := by rw [List.getD_eq_getElem?_getD, hfk]; rfl
    rw [prodSel, hg]
    have := F.l4
    have := ih.l
    split
    · have h2 := mulR_len (prodSel x n0 fs j) f
      exact ⟨row_trim _, by omega, ((ih.s.mul F.s (k := 4) (by omega)).trim).up (by omega)⟩
    · exact ⟨ih.r, by omega, ih.s.up (by omega)⟩
structure Tld (t : List Rat) : Prop where
  r : IsRow t
  l : t.length ≤ 13
  s : Sr 240 t
theorem base_facts (xs : List Int) (fs : List (List Rat)) (hf : ∀ f ∈ fs, Fac f) (h4 : fs.length ≤ 4) (k : Nat) : IsRow (tBase xs fs k) ∧ (tBase xs fs k).length ≤ 13 ∧ Sr 115 (tBase xs fs k) := by
  unfold tBase
  have h1 := Int.emod_nonneg (xs.getD (3 + 3 * k) 0) (show (5 : Int) ≠ 0 by decide)
  have h2 := Int.emod_lt_of_pos (xs.getD (3 + 3 * k) 0) (show (0 : Int) < 5 by decide)
  split
  · obtain ⟨_, n0, s0⟩ := fr_small (1 + xs.getD (3 + 3 * k) 0 % 5) (1 + 6 * (xs.getD (1 + 3 * k) 0 % 6 % 2)) (by omega) (by omega) (by omega)
    have S := sel_facts (xs.getD (2 + 3 * k) 0) n0 s0 fs hf h4 fs.length (Nat.le_refl _)
    have := S.l
    exact ⟨S.r, by omega, S.s.up (by omega)⟩
  · have := rowBy_len (xs.getD (2 + 3 * k) 0) 3
    exact ⟨rowBy_row _ _, by omega, (sr_of (rowBy_az _ 3)).up (by omega)⟩
theorem tRow_facts (xs : List Int) (fs : List (List Rat)) (hf : ∀ f ∈ fs, Fac f) (h4 : fs.length ≤ 4) (k : Nat) : Tld (tRow xs fs k) := by
  obtain ⟨r, l, s⟩ := base_facts xs fs hf h4 k
  unfold tRow
  split
  · rename_i h
    have h2 := mulR_len (tBase xs fs k) (tBase xs fs k)
    exact ⟨row_trim _, by omega, ((s.mul s (k := 3) (by omega)).trim).up (by omega)⟩
  · exact ⟨r, l, s.up (by decide)⟩
theorem toldN_le (xs : List Int) : toldN xs ≤ 6 := by
  unfold toldN
  have h1 := Int.emod_nonneg (xs.getD 0 0) (show (4 : Int) ≠ 0 by decide)
  have h2 := Int.emod_lt_of_pos (xs.getD 0 0) (show (0 : Int) < 4 by decide)
  split <;> omega
theorem toldL_facts (x : Int) (fs : List (List Rat)) (hf : ∀ f ∈ fs, Fac f) (h4 : fs.length ≤ 4) : (toldL x fs).length ≤ 6 ∧ ∀ t ∈ toldL x fs, Tld t := by
  unfold toldL
  refine ⟨by rw [List.length_map, List.length_range]; exact toldN_le _, fun t ht => ?_⟩
  obtain ⟨k, _, rfl⟩ := List.mem_map.mp ht
  exact tRow_facts _ fs hf h4 k
theorem pure__law_told (py : Prop) (ds : List D) (r : Res) (h : R__law_told py ds r) : w__law_told (fun g => r = .err g) py (endsOf r) (startΓ ["_law_x", "_law_rows", "_law_xs", "_law_told_here", "_law_k", "_law_way", "_law_row", "_law_j"] ds) := by
  obtain ⟨x, fs, rfl, hf, h4, hl, rfl⟩ := h
  unfold w__law_told
  have z4 : (0 : Int) < 4 ∧ ((4 : Int).natAbs.log2 < 9000 ∨ py) := ⟨by decide, .inl (by decide)⟩
  refine seq_go fun nx hnx => ?_
  walk_at "dl"
  refine call_ok ⟨x, 19, rfl, by decide, rfl⟩ (hnx _ ?_)
  have get : ∀ k, k < 19 → ((stream x 19).map PyData.int)[k]? = some (.int ((stream x 19).getD k 0)) := fun k hk => stream_get hk
  have rng : ∀ k, k < 19 → 0 ≤ (stream x 19).getD k 0 ∧ (stream x 19).getD k 0 < 2147483647 := fun k hk => stream_getD hk
  unfold toldL intsD
  have tn := toldN_le (stream x 19)
  generalize stream x 19 = xs at get rng tn ⊢
  refine seq_go fun nx hnx => ?_
  walk_at "dl"
  refine hnx _ ?_
  refine seq_go fun nx hnx => ?_
  have main : ∀ nx' : Ct → Prop, (∀ Γ', (∃ e4 e5 e6 e7 : En, Γ' = [.im (.int x), .im (.list (fs.map rowD)), .im (.list (xs.map PyData.int)), .own (((List.range (toldN xs)).map (tRow xs fs)).map rowD), e4, e5, e6, e7]) → nx' Γ') →
      wForL (dName 4) (wSeq (wSet 5 (eOp dMod (eOp dIx (eVar 2) (eOp dAdd (eC (.int 1)) (eOp dMul (eC (.int 3)) (eVar 4)))) (eC (.int 6))))
  (wSeq (wSet 6 (eCall (fun g => Res.ok (PyData.list (((List.range (toldN xs)).map (tRow xs fs)).map rowD)) = .err g) (R__law_row_by py) (aCons (eOp dIx (eVar 2) (eOp dAdd (eC (.int 2)) (eOp dMul (eC (.int 3)) (eVar 4)))) (aCons (eC (.int 3)) aNil))))
  (wSeq (wIf (tBl (eOp dGt (eVar 5) (eC (.int 1))))
  (wSeq (wSet 6 (eTup (aCons (eTup (aCons (eOp dAdd (eC (.int 1)) (eOp dMod (eOp dIx (eVar 2) (eOp dAdd (eC (.int 3)) (eOp dMul (eC (.int 3)) (eVar 4)))) (eC (.int 5)))) (aCons (eOp dAdd (eC (.int 1)) (eOp dMul (eC (.int 6)) (eOp dMod (eVar 5) (eC (.int 2))))) aNil))) aNil)))
  (wFor (iR1 (aCons (eCB cLen (aCons (eVar 1) aNil)) aNil)) (dName 7)
  (wIf (tBl (eOp dEq (eOp dMod (eOp (dFdiv py) (eOp dIx (eVar 2) (eOp dAdd (eC (.int 2)) (eOp dMul (eC (.int 3)) (eVar 4)))) (eOp dAdd (eC (.int 8)) (eOp dMul (eC (.int 5)) (eVar 7)))) (eC (.int 2))) (eC (.int 0))))
  (wSet 6 (eCall (fun g => Res.ok (PyData.list (((List.range (toldN xs)).map (tRow xs fs)).map rowD)) = .err g) (R__law_times py) (aCons (eVar 6) (aCons (eOp dIx (eVar 1) (eVar 7)) aNil))))
  wNext)))
  wNext)
  (wSeq (wIf (tAndD (tBl (eOp dEq (eVar 5) (eC (.int 5)))) (tBl (eOp dLt (eCB cLen (aCons (eVar 6) aNil)) (eC (.int 8)))))
  (wSet 6 (eCall (fun g => Res.ok (PyData.list (((List.range (toldN xs)).map (tRow xs fs)).map rowD)) = .err g) (R__law_times py) (aCons (eVar 6) (aCons (eVar 6) aNil))))
  wNext)
  (wApp 3 (eVar 6)))))) { nx := nx', rt := fun d => Res.ok (PyData.list (((List.range (toldN xs)).map (tRow xs fs)).map rowD)) = .ok d } (rngD 0 (toldN xs)) [.im (.int x), .im (.list (fs.map rowD)), .im (.list (xs.map PyData.int)), .own [], .no, .no, .no, .no] := fun nx' hend => by
    refine for_inv (fun (k : Nat) (Γ : Ct) => k ≤ toldN xs ∧ ∃ e4 e5 e6 e7 : En, Γ = [.im (.int x), .im (.list (fs.map rowD)), .im (.list (xs.map PyData.int)), .own (((List.range k).map (tRow xs fs)).map rowD), e4, e5, e6, e7]) (fun k d nx1 Γ hd hn' hI => ?_) (fun Γ hI => ?_) ⟨Nat.zero_le _, _, _, _, _, rfl⟩
    · obtain ⟨_, e4, e5, e6, e7, rfl⟩ := hI
      obtain ⟨hk, rfl⟩ := rngD_at hd
      rw [Int.zero_add]
      have hk6 : k < 6 := by omega
      have i1 : (1 : Int) + 3 * (k : Int) = ((1 + 3 * k : Nat) : Int) := by omega
      have i2 : (2 : Int) + 3 * (k : Int) = ((2 + 3 * k : Nat) : Int) := by omega
      have i3 : (3 : Int) + 3 * (k : Int) = ((3 + 3 * k : Nat) : Int) := by omega
      have ge1 := get (1 + 3 * k) (by omega)
      have ge2 := get (2 + 3 * k) (by omega)
      have ge3 := get (3 + 3 * k) (by omega)
      have m3 : CMulX 3 (k : Int) := mulx_of (a := 8) (b := 8) (by decide) (by omega) (by decide)
      obtain ⟨br, bl, bs⟩ := base_facts xs fs hf h4 k
      have w1 := Int.emod_nonneg (xs.getD (1 + 3 * k) 0) (show (6 : Int) ≠ 0 by decide)
      have w2 := Int.emod_lt_of_pos (xs.getD (1 + 3 * k) 0) (show (0 : Int) < 6 by decide)
      refine seq_go fun nx2 hnx2 => ?_
      walk_at "dl"
      refine ⟨m3, ixD_at (1 + 3 * k) i1 ge1 ⟨by decide, hnx2 _ ?_⟩⟩
      refine seq_go fun nx2 hnx2 => ?_
      walk_at "dl"
      refine ⟨m3, ixD_at (2 + 3 * k) i2 ge2 ?_⟩
      refine call_ok ⟨xs.getD (2 + 3 * k) 0, 3, rfl, by decide, rfl⟩ (hnx2 _ ?_)
      refine seq_go fun nx2 hnx2 => ?_
      -- the base
      have base : ∀ e7 : En, nx2 [.im (.int x), .im (.list (fs.map rowD)), .im (.list (xs.map PyData.int)), .own (((List.range k).map (tRow xs fs)).map rowD), .im (.int k), .im (.int (xs.getD (1 + 3 * k) 0 % 6)), .im (rowD (tBase xs fs k)), e7] := fun e7 => by
        refine hnx2 _ ?_
        refine seq_go fun nx3 hnx3 => ?_
        have app : ∀ t : List Rat, tRow xs fs k = t → nx3 [.im (.int x), .im (.list (fs.map rowD)), .im (.list (xs.map PyData.int)), .own (((List.range k).map (tRow xs fs)).map rowD), .im (.int k), .im (.int (xs.getD (1 + 3 * k) 0 % 6)), .im (rowD t), e7] := fun t ht => by
          refine hnx3 _ ?_
          walk_at "dl"
          refine ⟨line_lt (by rw [List.length_map, List.length_map, List.length_range]; omega), hn' _ ⟨hk, .im (.int k), .im (.int (xs.getD (1 + 3 * k) 0 % 6)), .im (rowD t), e7, ?_⟩⟩
          rw [List.range_succ, List.map_append, List.map_append, ← ht]
          rfl
        by_cases c0 : xs.getD (1 + 3 * k) 0 % 6 = 5 ∧ (tBase xs fs k).length < 8
        · have e : tRow xs fs k = trim (mulL (tBase xs fs k) (tBase xs fs k)) := if_pos c0
          refine if_true (fun P hP => ?_) ?_
          · unfold rowD
            walk_at "dl"
            rw [decide_eq_true c0.1, List.length_map, decide_eq_true (by omega)]
            exact hP
          · walk_at "dl"
            exact call_ok ⟨tBase xs fs k, tBase xs fs k, 115, 115, rfl, bs, bs, hl.low (by decide), by omega, by omega, rfl⟩ (app _ e)
        · have e : tRow xs fs k = tBase xs fs k := if_neg c0
          refine if_false (fun P hP => ?_) (app _ e)
          unfold rowD
          walk_at "dl"
          by_cases c1 : xs.getD (1 + 3 * k) 0 % 6 = 5
          · rw [decide_eq_true c1, List.length_map, decide_eq_false (by omega)]
            exact hP
          · rw [decide_eq_false c1]
            exact hP
      by_cases cw : 1 < xs.getD (1 + 3 * k) 0 % 6
      · have eb : tBase xs fs k = prodSel (xs.getD (2 + 3 * k) 0) (Rat.divInt (1 + xs.getD (3 + 3 * k) 0 % 5) (1 + 6 * (xs.getD (1 + 3 * k) 0 % 6 % 2))) fs fs.length := if_pos cw
        rw [eb] at base
        have h1 := Int.emod_nonneg (xs.getD (3 + 3 * k) 0) (show (5 : Int) ≠ 0 by decide)
        have h2 := Int.emod_lt_of_pos (xs.getD (3 + 3 * k) 0) (show (0 : Int) < 5 by decide)
        obtain ⟨fe, n0, s0⟩ := fr_small (1 + xs.getD (3 + 3 * k) 0 % 5) (1 + 6 * (xs.getD (1 + 3 * k) 0 % 6 % 2)) (by omega) (by omega) (by omega)
        refine if_true (fun P hP => ?_) ?_
        · walk_at "dl"
          rw [decide_eq_true cw]
          exact hP
        · refine seq_go fun nx3 hnx3 => ?_
          walk_at "dl"
          refine ⟨m3, ixD_at (3 + 3 * k) i3 ge3 ⟨by decide, by decide, mulx_of (a := 8) (b := 8) (by decide) (by omega) (by decide), hnx3 _ ?_⟩⟩
          rw [fe]
          have fe2 : PyData.tuple [frD (Rat.divInt (1 + xs.getD (3 + 3 * k) 0 % 5) (1 + 6 * (xs.getD (1 + 3 * k) 0 % 6 % 2)))] = rowD [Rat.divInt (1 + xs.getD (3 + 3 * k) 0 % 5) (1 + 6 * (xs.getD (1 + 3 * k) 0 % 6 % 2))] := rfl
          rw [fe2]
          generalize Rat.divInt (1 + xs.getD (3 + 3 * k) 0 % 5) (1 + 6 * (xs.getD (1 + 3 * k) 0 % 6 % 2)) = q at n0 s0 base ⊢
          unfold wFor iR1
          walk_at "dl"
          rw [List.length_map]
          refine ⟨inR_of (by omega) (by omega), ?_⟩
          rw [Int.toNat_natCast]
          refine for_inv (fun (j : Nat) (Γ : Ct) => j ≤ fs.length ∧ ∃ e7 : En, Γ = [.im (.int x), .im (.list (fs.map rowD)), .im (.list (xs.map PyData.int)), .own (((List.range k).map (tRow xs fs)).map rowD), .im (.int k), .im (.int (xs.getD (1 + 3 * k) 0 % 6)), .im (rowD (prodSel (xs.getD (2 + 3 * k) 0) q fs j)), e7]) (fun j d nx4 Γ hd hn4 hI => ?_) (fun Γ hI => ?_) ⟨Nat.zero_le _, e7, rfl⟩
          · obtain ⟨_, e7, rfl⟩ := hI
            obtain ⟨hj, rfl⟩ := rngD_at hd
            rw [Int.zero_add]
            obtain ⟨f, hfk⟩ : ∃ f, fs[j]? = some f := ⟨_, List.getElem?_eq_getElem hj⟩
            have F := hf f (List.mem_of_getElem? hfk)
            have hg : fs.getD j [] = f := by rw [List.getD_eq_getElem?_getD, hfk]; rfl
            have gf : (fs.map rowD)[j]? = some (rowD f) := by rw [List.getElem?_map, hfk]; rfl
            have S := sel_facts (xs.getD (2 + 3 * k) 0) n0 s0 fs hf h4 j (by omega)
            have sl := S.l
            have f4 := F.l4
            have m5 : CMulX 5 (j : Int) := mulx_of (a := 8) (b := 8) (by decide) (by omega) (by decide)
            have z5 : 0 < 8 + 5 * (j : Int) ∧ ((8 + 5 * (j : Int)).natAbs.log2 < 9000 ∨ py) := by
              refine ⟨by omega, .inl ?_⟩
              rw [Nat.log2_lt (by omega)]
              exact Nat.lt_of_lt_of_le (m := 2 ^ 6) (by omega) (Nat.pow_le_pow_right (by decide) (by decide))
            by_cases c0 : xs.getD (2 + 3 * k) 0 / (8 + 5 * (j : Int)) % 2 = 0
            · have e : prodSel (xs.getD (2 + 3 * k) 0) q fs (j + 1) = trim (mulL (prodSel (xs.getD (2 + 3 * k) 0) q fs j) f) := by rw [prodSel, if_pos c0, hg]
              rw [e] at hn4
              refine if_true (fun P hP => ?_) ?_
              · walk_at "dl"
                refine ⟨m3, ixD_at (2 + 3 * k) i2 ge2 ⟨m5, z5, by decide, ?_⟩⟩
                rw [decide_eq_true c0]
                exact hP
              · walk_at "dl"
                refine ixD_at j rfl gf ?_
                exact call_ok ⟨_, f, _, 23, rfl, S.s, F.s, hl.low (by omega), by omega, by omega, rfl⟩ (hn4 _ ⟨hj, _, rfl⟩)
            · have e : prodSel (xs.getD (2 + 3 * k) 0) q fs (j + 1) = prodSel (xs.getD (2 + 3 * k) 0) q fs j := by rw [prodSel, if_neg c0]
              rw [e] at hn4
              refine if_false (fun P hP => ?_) ?_
              · walk_at "dl"
                refine ⟨m3, ixD_at (2 + 3 * k) i2 ge2 ⟨m5, z5, by decide, ?_⟩⟩
                rw [decide_eq_false c0]
                exact hP
              · exact hn4 _ ⟨hj, _, rfl⟩
          · obtain ⟨_, e7, rfl⟩ := hI
            rw [rngD_length]
            exact base e7
      · have eb : tBase xs fs k = rowBy (xs.getD (2 + 3 * k) 0) 3 := if_neg cw
        rw [eb] at base
        refine if_false (fun P hP => ?_) (base e7)
        walk_at "dl"
        rw [decide_eq_false cw]
        exact hP
    · obtain ⟨_, e4, e5, e6, e7, rfl⟩ := hI
      rw [rngD_length]
      exact hend _ ⟨_, _, _, _, rfl⟩
  have fin := main nx fun Γ' h => by
    obtain ⟨e4, e5, e6, e7, rfl⟩ := h
    refine hnx _ ?_
    rfl
  by_cases c0 : xs.getD 0 0 / 4 % 8 = 0
  · have e : toldN xs = 6 := if_pos c0
    unfold wFor iR1
    walk_at "dl"
    rw [get 0 (by decide)]
    dsimp only
    refine ⟨by decide, z4, by decide, ?_⟩
    rw [decide_eq_true c0]
    refine ⟨inR_of (by decide) (by decide), ?_⟩
    rw [e] at fin ⊢
    exact fin
  · have e : toldN xs = (xs.getD 0 0 % 4).toNat := if_neg c0
    have h1 := Int.emod_nonneg (xs.getD 0 0) (show (4 : Int) ≠ 0 by decide)
    have h2 := Int.emod_lt_of_pos (xs.getD 0 0) (show (0 : Int) < 4 by decide)
    unfold wFor iR1
    walk_at "dl"
    rw [get 0 (by decide)]
    dsimp only
    refine ⟨by decide, z4, by decide, ?_⟩
    rw [decide_eq_false c0]
    refine ⟨inR_of (by omega) (by omega), ?_⟩
    rw [e] at fin ⊢
    exact fin
end DL

set_option linter.all false
set_option autoImplicit false
set_option maxRecDepth 10000
namespace DL
open PySem PySem.Spec L2
/-! ### lists of whole numbers, the less -/
def rLtD (K : PySem.W.Frag) : R2 := fun x y H Q => ∃ d e, Dp K H x d ∧ Dp K H y e ∧ PySem.W.alike d e = true ∧ d ≠ .none ∧ min d.depth e.depth ≤ 64 ∧ Q (.bl (PySem.W.dataLt d e)) H
theorem op_ltD {X : Cx} (hu : X.A.units + 64 < cLine) : OpR X (compareOp .Lt) (rLtD X.K) := by
  intro pins s σ H x y v u Q I rx ry h
  obtain ⟨d, e, hd, he, sd, se, hm, q⟩ := h
  obtain ⟨as, r1⟩ := Dp.reads I d x v hd rx
  obtain ⟨bs, r2⟩ := Dp.reads I e y u he ry
  exact PySem.W.lt_data r1 r2 sd se (by omega) ⟨.bl _, H, I, rfl, q⟩
def dLtL : D2 := fun x y P => match x, y with
  | .list xs, .list ys => ∃ ms ns : List Int, xs = ms.map PyData.int ∧ ys = ns.map PyData.int ∧ P (.bool (decide (ms < ns)))
  | _, _ => False
theorem alike_ints : ∀ ms ns : List Int, PySem.W.alikeAll (ms.map PyData.int) (ns.map PyData.int) = true
  | [], _ => by rw [List.map_nil]; unfold PySem.W.alikeAll; rfl
  | m :: ms, [] => by rw [List.map_cons, List.map_nil]; unfold PySem.W.alikeAll; rfl
  | m :: ms, n :: ns => by
    rw [List.map_cons, List.map_cons]
    unfold PySem.W.alikeAll
    rw [alike_ints ms ns]
    unfold PySem.W.alike
    rfl
theorem depth_ints : ∀ ms : List Int, PyData.depthAll (ms.map PyData.int) = 0
  | [] => by rw [List.map_nil, PyData.depthAll]
  | m :: ms => by rw [List.map_cons, PyData.depthAll, depth_ints ms, PyData.depth]; rfl
variable {B : Bd}
theorem snd_ltL : SndR (B := B) (rLtD B.K) dLtL := fun Γ ad σ H x y d e P Q C rx ry h k => by
  unfold dLtL at h
  split at h
  · obtain ⟨ms, ns, rfl, rfl, h⟩ := h
    refine ⟨_, _, (rx.mono msk_le).dp, (ry.mono msk_le).dp, ?_, (fun z => nomatch z), ?_, ?_⟩
    · unfold PySem.W.alike
      exact alike_ints ms ns
    · rw [PyData.depth, depth_ints]
      omega
    · have e : PySem.W.dataLt (.list (ms.map PyData.int)) (.list (ns.map PyData.int)) = decide (ms < ns) := by
        rw [PySem.W.dataLt_list]
        exact PySem.W.dataLt_ints ms ns
      rw [e]
      exact k _ H _ (Same.refl H) (.bl _) h
  · exact h.elim
theorem op_ltL (j : B.ι) : OpR (B.X j) (compareOp .Lt) (rLtD B.K) := by
  have e := B.hK j
  rw [← e]
  exact op_ltD (B.un j)
theorem ee_ltL {a b : Expr} {wa wb : DE} {pos : Pos} (ha : EE B a wa) (hb : EE B b wb) : EE B (.Compare a [.Lt] [b] pos) (eOp dLtL wa wb) := ee_cmp op_ltL snd_ltL ha hb
theorem et_ltL {a b : Expr} {wa wb : DE} {pos : Pos} (ha : EE B a wa) (hb : EE B b wb) : ET B (.Compare a [.Lt] [b] pos) (tBl (eOp dLtL wa wb)) := et_cmp op_ltL snd_ltL ha hb
end DL

set_option linter.all false
set_option autoImplicit false
set_option maxRecDepth 10000
namespace DL
open PySem PySem.Spec L2
/-! ### chained comparisons; the place of a thing in a list -/
variable {B : Bd}
theorem snd_chain {r r' : R2} {w w' : D2} {ta tb tc : TE} {wa wb wc : DE} (h1 : SndR (B := B) r w) (h2 : SndR (B := B) r' w') (sa : SndE B ta wa) (sb : SndE B tb wb) (sc : SndE B tc wc) : SndE B (tChain r r' ta tb tc) (eChain w w' wa wb wc) := fun ad Γ σ H P Q C h k =>
  sa ad Γ σ H _ _ C h fun x H1 d e1 r1 q1 => sb ad Γ σ H1 _ _ (C.grow e1) q1 fun y H2 e e2 r2 q2 =>
    h1 Γ ad σ H2 x y d e _ _ ((C.grow e1).grow e2) (r1.mono (msk_same e2)) r2 q2 fun v H3 d' e3 r3 q3 => by
      cases d' with
      | bool b =>
        cases r3
        refine ⟨b, rfl, ?_⟩
        cases b with
        | false => exact k _ _ _ ((e1.trans e2).trans e3) (.bl _) q3
        | true =>
          rw [if_pos rfl]
          exact sc ad Γ σ H3 _ _ (((C.grow e1).grow e2).grow e3) q3 fun z H4 f e4 r4 q4 =>
            h2 Γ ad σ H4 y z e f _ _ ((((C.grow e1).grow e2).grow e3).grow e4) (r2.mono (msk_same (e3.trans e4))) r4 q4 fun v' H5 d5 e5 r5 q5 => k v' H5 d5 ((((e1.trans e2).trans e3).trans e4).trans e5) r5 q5
      | _ => exact q3.elim
section
variable {a b c : Expr} {wa wb wc : DE} {pos : Pos}
theorem ee_chain {op op' : CmpOp} {r r' : R2} {w w' : D2} (h1 : Ch1 B op r w) (h2 : Ch1 B op' r' w') (ha : EE B a wa) (hb : EE B b wb) (hc : EE B c wc) (hm : lastMarks [op, op'] [b, c] = false := by with_unfolding_all rfl) : EE B (.Compare a [op, op'] [b, c] pos) (eChain w w' wa wb wc) := by
  obtain ⟨ta, pa, sa⟩ := ha
  obtain ⟨tb, pb, sb⟩ := hb
  obtain ⟨tc, pc, sc⟩ := hc
  exact ⟨_, fun j => pe_chain (h1.1 j) (h2.1 j) (pa j) (pb j) (pc j) hm, snd_chain h1.2 h2.2 sa sb sc⟩
theorem et_chain {op op' : CmpOp} {r r' : R2} {w w' : D2} (h1 : Ch1 B op r w) (h2 : Ch1 B op' r' w') (ha : EE B a wa) (hb : EE B b wb) (hc : EE B c wc) (hm : lastMarks [op, op'] [b, c] = false := by with_unfolding_all rfl) : ET B (.Compare a [op, op'] [b, c] pos) (tBl (eChain w w' wa wb wc)) := by
  obtain ⟨ta, pa, sa⟩ := ha
  obtain ⟨tb, pb, sb⟩ := hb
  obtain ⟨tc, pc, sc⟩ := hc
  refine ⟨_, fun j => pt_chain (h1.1 j) (h2.1 j) (pa j) (pb j) (pc j) hm, fun ad Γ σ H P Q C h k => ?_⟩
  refine snd_chain h1.2 h2.2 sa sb sc ad Γ σ H _ _ C h fun v H' d s r q => ?_
  cases d with
  | bool b => cases r; exact ⟨b, rfl, k b H' s q⟩
  | _ => exact q.elim
end
/-- l.index(x) -/
def eIndex (a : DE) (as : DL_) : DE := fun Γ P => a Γ fun x => match x with
  | .list xs => as Γ fun ds => match ds with
    | [d] => (SeqAt.shaped (.list xs) = true ∧ SeqAt.shaped d = true) ∧ ∃ (j : Nat) (z : D), xs[j]? = some z ∧ PyData.eqv z d = true ∧ (∀ (m : Nat) (z' : D), m < j → xs[m]? = some z' → PyData.eqv z' d = false) ∧ P (.int j)
    | _ => False
  | _ => False
theorem Bd.un65 (B : Bd) (j : B.ι) : (B.X j).A.units + 65 < cLine := by have := (B.hr j).un; omega
theorem ee_index {o e : Expr} {wo : DE} {we : DL_} {p2 p3 : Pos} (ho : EE B o wo) (he : EA B [e] we)
    (hb : ∀ j (tx : TE) (t : TA), PE (B.X j) o tx → PA (B.X j) [e] t → PE (B.X j) (.Call (.Attribute o "index" p2) [e] [] p3) (tBM (B.X j).K "list" (rIndexD (B.X j).K) tx t) := by intro j tx t h1 h2; exact pe_bm PySem.F.plainAttrs_list PySem.F.slot_list_index PySem.F.type_list_index (mt_indexD (Bd.un65 _ j)) h1 h2) :
    EE B (.Call (.Attribute o "index" p2) [e] [] p3) (eIndex wo we) := by
  obtain ⟨tx, px, sx⟩ := ho
  obtain ⟨t, pt, st⟩ := he
  refine ⟨tBM B.K "list" (rIndexD B.K) tx t, fun j => ?_, fun ad Γ σ H P Q C h k => ?_⟩
  · have q := B.hK j
    rw [← q]
    exact hb j _ _ (px j) (pt j)
  · refine sx ad Γ σ H _ _ C h fun x H1 d e1 r1 q1 => ?_
    cases d with
    | list xs =>
      have r1' := r1.mono (msk_le)
      cases r1' with
      | lst hx ax =>
        refine ⟨.inl ⟨rfl, _, SqL.of hx⟩, ?_⟩
        refine st ad Γ σ H1 _ _ (C.grow e1) q1 fun us H2 ds e2 r2 hl q2 => ?_
        cases r2 with
        | nil => cases hl
        | cons ry rt =>
          cases rt with
          | cons _ _ => cases hl
          | nil =>
            obtain ⟨⟨s1, s2⟩, j, z, hz, hzj, hno, q⟩ := q2
            exact ⟨_, _, _, xs, j, z, rfl, rfl, ((r1.mono (msk_same e2)).mono msk_le).dp, (ry.mono msk_le).dp, s1, s2, hz, hzj, hno, k _ H2 _ (e1.trans e2) (.int _) q⟩
    | _ => exact q1.elim
end DL

set_option linter.all false
set_option autoImplicit false
namespace DL
/-! ### the steps of shared, and their sizes -/
def Ss (p q : List Rat) (a b : T3) : Prop := (a = (p, [1], []) ∧ b = (q, [], [1]) ∧ p.length < q.length) ∨ (p = [] ∧ q = [] ∧ b.1 = []) ∨ Eu p q a.1 a.2.1 a.2.2 b.1 b.2.1 b.2.2 ∨ Eu q p a.1 a.2.2 a.2.1 b.1 b.2.2 b.2.1
theorem Ss.start {p q : List Rat} (hp : IsRow p) (hq : IsRow q) : Ss p q (p, [1], []) (q, [], [1]) := by
  rcases Nat.lt_or_ge p.length q.length with h | h
  · exact .inl ⟨rfl, rfl, h⟩
  · rcases Classical.em (p = []) with p0 | p0
    · have q0 : q = [] := by rw [p0] at h; exact List.length_eq_zero_iff.mp (Nat.le_zero.mp h)
      exact .inr (.inl ⟨p0, q0, q0⟩)
    · exact .inr (.inr (.inl (Eu.start hp hq hq p0 h (show (1 : Rat) ≠ 0 by decide) fun x => (Rat.mul_one _).symm)))
theorem Eu.go {p q : List Rat} {a b : T3} (h : Eu p q a.1 a.2.1 a.2.2 b.1 b.2.1 b.2.2) (b0 : b.1 ≠ []) : Eu p q b.1 b.2.1 b.2.2 (eucS a b).1 (eucS a b).2.1 (eucS a b).2.2 ∧ (eucS a b).1.length < b.1.length := by
  have dv := dv_of h.rra h.rrb b0
  refine h.step b0 dv (show (1 : Rat) ≠ 0 by decide) dv.rl (row_trim _) (row_trim _) (fun x => ?_) (fun x => ?_) fun x => ?_
  · show ev (rem a.1 b.1) x = _
    rw [dv.eq]; grind
  · show ev (co _ _ _) x = _
    rw [ev_co]; grind
  · show ev (co _ _ _) x = _
    rw [ev_co]; grind
theorem Eu.go2 {p q : List Rat} {a b : T3} (h : Eu q p a.1 a.2.2 a.2.1 b.1 b.2.2 b.2.1) (b0 : b.1 ≠ []) : Eu q p b.1 b.2.2 b.2.1 (eucS a b).1 (eucS a b).2.2 (eucS a b).2.1 ∧ (eucS a b).1.length < b.1.length := by
  have dv := dv_of h.rra h.rrb b0
  refine h.step b0 dv (show (1 : Rat) ≠ 0 by decide) dv.rl (row_trim _) (row_trim _) (fun x => ?_) (fun x => ?_) fun x => ?_
  · show ev (rem a.1 b.1) x = _
    rw [dv.eq]; grind
  · show ev (co _ _ _) x = _
    rw [ev_co]; grind
  · show ev (co _ _ _) x = _
    rw [ev_co]; grind
theorem Ss.step {p q : List Rat} {a b : T3} (hp : IsRow p) (hq : IsRow q) (h : Ss p q a b) (b0 : b.1 ≠ []) : Ss p q b (eucS a b) ∧ (eucS a b).1.length < b.1.length := by
  rcases h with ⟨rfl, rfl, h⟩ | ⟨_, _, h⟩ | h | h
  · have dv : Dv p q [] p := ⟨row_nil, hp, h, fun x => by rw [ev_nil]; grind⟩
    obtain ⟨e1, e2⟩ := dv.eqs hp hq
    have c1 : co [1] [] [] = [1] := row_ext (row_trim _) row_one1 fun x => by
      have := ev_co [1] [] [] x
      rw [ev_nil] at this
      rw [this]; grind
    have c2 : co [] [1] [] = [] := row_ext (row_trim _) row_nil fun x => by
      have := ev_co [] [1] [] x
      rw [ev_nil] at this
      rw [this, ev_nil]; grind
    have e : eucS (p, [1], []) (q, [], [1]) = (p, [1], []) := by
      unfold eucS
      dsimp only
      rw [← e1, ← e2, c1, c2]
    rw [e]
    exact ⟨.inr (.inr (.inr (Eu.start hq hp hp b0 (Nat.le_of_lt h) (show (1 : Rat) ≠ 0 by decide) fun x => (Rat.mul_one _).symm))), h⟩
  · exact absurd h b0
  · obtain ⟨h1, h2⟩ := h.go b0
    exact ⟨.inr (.inr (.inl h1)), h2⟩
  · obtain ⟨h1, h2⟩ := h.go2 b0
    exact ⟨.inr (.inr (.inr h1)), h2⟩
structure SsR (p q : List Rat) (a b : T3) : Prop where
  ra : IsRow a.1
  rb : IsRow b.1
  la : a.1.length ≤ max p.length q.length
  lb : b.1.length ≤ max p.length q.length
  c1 : a.2.1.length ≤ max p.length q.length + 1
  c2 : a.2.2.length ≤ max p.length q.length + 1
  c3 : b.2.1.length ≤ max p.length q.length + 1
  c4 : b.2.2.length ≤ max p.length q.length + 1
  r1 : IsRow a.2.1
  r2 : IsRow a.2.2
  r3 : IsRow b.2.1
  r4 : IsRow b.2.2
theorem Ss.rows {p q : List Rat} {a b : T3} (hp : IsRow p) (hq : IsRow q) (h : Ss p q a b) (hne : b.1 ≠ [] ∨ p ≠ []) : SsR p q a b := by
  rcases h with ⟨rfl, rfl, h⟩ | ⟨h1, _, h⟩ | h | h
  · exact ⟨hp, hq, by show p.length ≤ _; omega, by show q.length ≤ _; omega, by show 1 ≤ _; omega, Nat.zero_le _, Nat.zero_le _, by show 1 ≤ _; omega, row_one1, row_nil, row_nil, row_one1⟩
  · rcases hne with z | z <;> contradiction
  · have h1 := h.lp
    have h2 := h.le
    have h3 := h.lt
    have h4 := h.ls
    have h5 := h.lsa
    have h6 : a.2.2.length ≤ b.2.2.length := by rcases h.tt with t | ⟨t, _⟩ <;> omega
    exact ⟨h.rra, h.rrb, by omega, by omega, by omega, by omega, by omega, by omega, h.rsa, h.rta, h.rsb, h.rtb⟩
  · have h1 := h.lp
    have h2 := h.le
    have h3 := h.lt
    have h4 := h.ls
    have h5 := h.lsa
    have h6 : a.2.1.length ≤ b.2.1.length := by rcases h.tt with t | ⟨t, _⟩ <;> omega
    exact ⟨h.rra, h.rrb, by omega, by omega, by omega, by omega, by omega, by omega, h.rta, h.rsa, h.rtb, h.rsb⟩
/-- a row of shared's and what it comes of, by the row's last fraction -/
structure Gdd (Z k : Nat) (x : T3) : Prop where
  l : Sz k (lead x.1)
  s0 : Sr Z (ledR x.1)
  s1 : Sr Z (trim (sclL (1 / lead x.1) x.2.1))
  s2 : Sr Z (trim (sclL (1 / lead x.1) x.2.2))
theorem Gdd.up {Z j k : Nat} {x : T3} (h : Gdd Z j x) (hk : j ≤ k) : Gdd Z k x := ⟨h.l.up hk, h.s0, h.s1, h.s2⟩
theorem unled {Z k : Nat} {c : Rat} {y : List Rat} (hc : c ≠ 0) (hy : IsRow y) (hk : Sz k c) (h : Sr Z (trim (sclL (1 / c) y))) : Sr (Z + k) y := by
  have e : y = trim (sclL c (trim (sclL (1 / c) y))) := row_ext hy (row_trim _) fun x => by
    rw [ev_trim, ev_scl, ev_trim, ev_scl]; grind
  rw [e]
  exact (h.scl hk).trim
theorem sz_mulR {m n : Nat} {a b : Rat} (ha : Sz m a) (hb : Sz n b) : Sz (m + n) (a * b) := by
  have h : Sr (m + n) (sclL b [a]) := (show Sr m [a] from ⟨a.den, a.num.natAbs, a.den_pos, ha.2, ha.1, .cons (ib_of a) .nil⟩).scl hb
  exact h.az (a * b) (List.mem_singleton.mpr rfl)
theorem rem_led {a b : List Rat} (ha : IsRow a) (hb : IsRow b) (a0 : a ≠ []) (b0 : b ≠ []) : ∀ x, ev (rem a b) x = ev (rem (ledR a) (ledR b)) x * lead a := by
  have la := lead_ne ha a0
  have lb := lead_ne hb b0
  have mb := mon_led hb b0
  have dv := dv_of (ledR_row a) mb.row mb.ne
  have ll := ledR_len hb
  have dv2 : Dv a b (trim (sclL (lead a / lead b) (quo (ledR a) (ledR b)))) (trim (sclL (lead a) (rem (ledR a) (ledR b)))) := by
    refine ⟨row_trim _, row_trim _, ?_, fun x => ?_⟩
    · have h1 := trim_len (sclL (lead a) (rem (ledR a) (ledR b)))
      rw [sclL_len] at h1
      have h2 := dv.lt
      omega
    · have h3 := dv.eq x
      rw [ev_ledR, ev_ledR] at h3
      rw [ev_trim, ev_trim, ev_scl, ev_scl]
      have h4 : ev a x = (ev a x * (1 / lead a)) * lead a := by grind
      rw [h4, h3]
      grind
  have e := (dv2.eqs ha hb).2
  intro x
  rw [← e, ev_trim, ev_scl]
theorem lead_scl {c : Rat} (hc : c ≠ 0) {a b : List Rat} (ha : IsRow a) (hb : IsRow b) (b0 : b ≠ []) (e : ∀ x, ev a x = ev b x * c) : lead a = lead b * c := by
  have e1 : a = sclL c b := row_ext ha (scl_row hc hb) fun x => by rw [e, ev_scl]
  rw [e1]
  rcases snoc_cases b with rfl | ⟨A, t, rfl⟩
  · exact absurd rfl b0
  · unfold sclL
    rw [List.map_append, lead_snoc]
    exact lead_snoc _ _
def kB (Z L n : Nat) : Nat := (1 + 4 * (L + 1 - n)) * (Z + 1)
theorem kB_mono {Z L m n : Nat} (h : n ≤ m) : kB Z L m ≤ kB Z L n := Nat.mul_le_mul_right _ (by omega)
structure SsZ (m L : Nat) (p q : List Rat) (a b : T3) : Prop where
  st : Ss p q a b
  a0 : b.1 ≠ [] → a.1 ≠ []
  ga : a.1 ≠ [] → Gdd (zB m (2 * L)) (kB (zB m (2 * L)) L a.1.length) a
  gb : b.1 ≠ [] → Gdd (zB m (2 * L)) (kB (zB m (2 * L)) L b.1.length) b
  lt : b.1.length < a.1.length ∨ (a.1.length = b.1.length ∧ Sz (zB m (2 * L)) (lead a.1)) ∨ (a.1 = p ∧ b.1 = q ∧ a.2.1 = [1] ∧ a.2.2 = [] ∧ b.2.1 = [] ∧ b.2.2 = [1] ∧ p.length < q.length)
theorem gd_new {m L : Nat} {p q : List Rat} {b c : T3} (hL : L ≤ 31) (sp : Sr m p) (sq : Sr m q) (lp : p.length ≤ L) (lq : q.length ≤ L) {k : Nat} (hk : Sz k (lead c.1)) (c0 : c.1 ≠ []) (hlt : c.1.length < b.1.length)
    (h : Eu p q b.1 b.2.1 b.2.2 c.1 c.2.1 c.2.2 ∨ Eu q p b.1 b.2.2 b.2.1 c.1 c.2.2 c.2.1) : Gdd (zB m (2 * L)) k c := by
  rcases h with h | h
  · obtain ⟨C, g, r, s, t, hC, g0, rr, rs, rt, cr, cs, ct, er, es, et⟩ := h.sz sp sq lp lq hL hlt
    exact ⟨hk, led_sr hC g0 h.rrb c0 rr rr cr cr er er, led_sr hC g0 h.rrb c0 rr rs cr cs er es, led_sr hC g0 h.rrb c0 rr rt cr ct er et⟩
  · obtain ⟨C, g, r, s, t, hC, g0, rr, rs, rt, cr, cs, ct, er, es, et⟩ := h.sz sq sp lq lp hL hlt
    exact ⟨hk, led_sr hC g0 h.rrb c0 rr rr cr cr er er, led_sr hC g0 h.rrb c0 rr rt cr ct er et, led_sr hC g0 h.rrb c0 rr rs cr cs er es⟩
theorem SsZ.step {m L : Nat} {p q : List Rat} {a b : T3} (hp : IsRow p) (hq : IsRow q) (hL : L ≤ 31) (sp : Sr m p) (sq : Sr m q) (lp : p.length ≤ L) (lq : q.length ≤ L) (h : SsZ m L p q a b) (b0 : b.1 ≠ []) : SsZ m L p q b (eucS a b) := by
  obtain ⟨h2, hlt⟩ := h.st.step hp hq b0
  have R := h.st.rows hp hq (.inl b0)
  have a0 := h.a0 b0
  have ga := h.ga a0
  have gb := h.gb b0
  have la := lead_ne R.ra a0
  have dv := dv_of R.ra R.rb b0
  have ra1 := R.la
  have rb1 := R.lb
  refine ⟨h2, fun _ => b0, fun _ => gb, fun c0 => ?_, .inl hlt⟩
  have kc : Sz (kB (zB m (2 * L)) L (eucS a b).1.length) (lead (eucS a b).1) := by
    show Sz _ (lead (rem a.1 b.1))
    rcases Nat.lt_or_ge a.1.length b.1.length with hab | hab
    · have e : rem a.1 b.1 = a.1 := by
        have dv : Dv a.1 b.1 [] a.1 := ⟨row_nil, R.ra, hab, fun x => by rw [ev_nil]; grind⟩
        exact (dv.eqs R.ra R.rb).2.symm
      have e2 : (eucS a b).1 = a.1 := e
      rw [e2, e]
      exact ga.l
    · have e := rem_led R.ra R.rb a0 b0
      have mb := mon_led R.rb b0
      have lla := ledR_len R.ra
      have llb := ledR_len R.rb
      have dv3 := dv_of (ledR_row a.1) mb.row mb.ne
      have n0 : rem (ledR a.1) (ledR b.1) ≠ [] := fun z => c0 (row_zero dv.rl fun x => by show ev (rem a.1 b.1) x = 0; rw [e, z, ev_nil, Rat.zero_mul])
      have el := lead_scl la dv.rl dv3.rl n0 e
      obtain ⟨t1, _⟩ := dv_bits (d := a.1.length + 1 - b.1.length) (ledR_row a.1) mb.row mb.ne ga.s0 gb.s0 (by omega)
      have sl : Sz (zB m (2 * L) + (a.1.length + 1 - b.1.length) * (zB m (2 * L) + 1)) (lead (rem (ledR a.1) (ledR b.1))) := by
        rcases snoc_cases (rem (ledR a.1) (ledR b.1)) with z | ⟨l, t, ht⟩
        · exact absurd z n0
        · rw [ht, lead_snoc]
          exact t1.az t (by rw [ht]; exact List.mem_append_right _ (List.mem_singleton.mpr rfl))
      have hlt' : (rem a.1 b.1).length < b.1.length := hlt
      have bp := List.length_pos_iff.mpr b0
      have key : ∀ k, Sz k (lead a.1) → zB m (2 * L) + (a.1.length + 1 - b.1.length) * (zB m (2 * L) + 1) + k ≤ kB (zB m (2 * L)) L (rem a.1 b.1).length → Sz (kB (zB m (2 * L)) L (eucS a b).1.length) (lead (rem a.1 b.1)) := fun k hk hle => by
        rw [el]
        exact (sz_mulR sl hk).up hle
      have expand : ∀ (s : Nat), s * (zB m (2 * L) + 1) = s * zB m (2 * L) + s := fun s => Nat.mul_succ _ _
      rcases h.lt with h3 | ⟨h3, h4⟩ | ⟨_, _, _, _, _, _, h3⟩
      · refine key _ ga.l ?_
        unfold kB
        have m1 : zB m (2 * L) + (a.1.length + 1 - b.1.length) * (zB m (2 * L) + 1) + (1 + 4 * (L + 1 - a.1.length)) * (zB m (2 * L) + 1) ≤ (1 + (a.1.length + 1 - b.1.length) + (1 + 4 * (L + 1 - a.1.length))) * (zB m (2 * L) + 1) := by
          generalize a.1.length + 1 - b.1.length = dd
          generalize 1 + 4 * (L + 1 - a.1.length) = kk
          generalize zB m (2 * L) = zz
          have : (1 + dd + kk) * (zz + 1) = (zz + 1) + dd * (zz + 1) + kk * (zz + 1) := by grind
          omega
        refine Nat.le_trans m1 (Nat.mul_le_mul_right _ ?_)
        omega
      · refine key _ h4 ?_
        unfold kB
        have m1 : zB m (2 * L) + (a.1.length + 1 - b.1.length) * (zB m (2 * L) + 1) + zB m (2 * L) ≤ 3 * (zB m (2 * L) + 1) := by
          rw [show a.1.length + 1 - b.1.length = 1 by omega]
          omega
        refine Nat.le_trans m1 (Nat.mul_le_mul_right _ ?_)
        omega
      · have := R.la
        have e1 : a.1 = p := by assumption
        have e2 : b.1 = q := by assumption
        rw [e1, e2] at hab
        omega
  rcases h2 with ⟨h3, h4, h5⟩ | ⟨_, _, h3⟩ | h3 | h3
  · have e1 : b.1 = p := by rw [h3]
    have e2 : (eucS a b).1 = q := by rw [h4]
    rw [e1, e2] at hlt
    omega
  · exact absurd h3 c0
  · exact gd_new hL sp sq lp lq kc c0 hlt (.inl h3)
  · exact gd_new hL sp sq lp lq kc c0 hlt (.inr h3)
theorem SsZ.start {m L : Nat} {p q : List Rat} (hp : IsRow p) (hq : IsRow q) (sp : Sr m p) (sq : Sr m q) (lp : p.length ≤ L) (lq : q.length ≤ L) (hm : 0 < m) (h0 : q ≠ [] → p ≠ []) : SsZ m L p q (p, [1], []) (q, [], [1]) := by
  have mz := le_zB m L
  have g : ∀ (r s t : List Rat), IsRow r → r ≠ [] → Sr m r → (s = [1] ∨ s = []) → (t = [1] ∨ t = []) → Gdd (zB m (2 * L)) (zB m (2 * L)) (r, s, t) := fun r s t hr r0 sr hs ht => by
    have sl : Sz m (lead r) := by
      rcases snoc_cases r with z | ⟨l, c, rfl⟩
      · exact absurd z r0
      · rw [lead_snoc]
        exact sr.az c (List.mem_append_right _ (List.mem_singleton.mpr rfl))
    have li := sz_inv sl (lead_ne hr r0)
    have one : ∀ u : List Rat, (u = [1] ∨ u = []) → Sr (zB m (2 * L)) (trim (sclL (1 / lead r) u)) := fun u hu => by
      rcases hu with rfl | rfl
      · exact ((sr_one1.scl li).trim).up (by omega)
      · exact .nil _ (by omega)
    exact ⟨sl.up (by omega), (sr_led sr hr).up (by omega), one s hs, one t ht⟩
  have kz : ∀ n, zB m (2 * L) ≤ kB (zB m (2 * L)) L n := fun n => by
    unfold kB
    have : 1 * (zB m (2 * L) + 1) ≤ (1 + 4 * (L + 1 - n)) * (zB m (2 * L) + 1) := Nat.mul_le_mul_right _ (by omega)
    omega
  refine ⟨.start hp hq, h0, fun p0 => (g p [1] [] hp p0 sp (.inl rfl) (.inr rfl)).up (kz _), fun q0 => (g q [] [1] hq q0 sq (.inr rfl) (.inl rfl)).up (kz _), ?_⟩
  rcases Nat.lt_or_ge q.length p.length with h | h
  · exact .inl h
  · rcases Nat.lt_or_ge p.length q.length with h2 | h2
    · exact .inr (.inr ⟨rfl, rfl, rfl, rfl, rfl, rfl, h2⟩)
    · refine .inr (.inl ⟨by show p.length = q.length; omega, ?_⟩)
      rcases Classical.em (p = []) with rfl | p0
      · show Sz _ (0 : Rat)
        exact ⟨Nat.two_pow_pos _, Nat.one_lt_two_pow (by omega)⟩
      · exact (g p [1] [] hp p0 sp (.inl rfl) (.inr rfl)).l
theorem ssz_run {m L : Nat} {p q : List Rat} (hp : IsRow p) (hq : IsRow q) (hL : L ≤ 31) (sp : Sr m p) (sq : Sr m q) (lp : p.length ≤ L) (lq : q.length ≤ L) : ∀ (n : Nat) (a b : T3), SsZ m L p q a b → b.1.length < n → ∃ b', SsZ m L p q (euc n a b) b' ∧ b'.1 = []
  | 0, a, b, _, h => absurd h (Nat.not_lt_zero _)
  | n + 1, a, b, hz, h => by
    rw [euc]
    by_cases h0 : b.1 = []
    · rw [if_pos h0]
      exact ⟨b, hz, h0⟩
    · rw [if_neg h0]
      have hlt := (hz.st.step hp hq h0).2
      exact ssz_run hp hq hL sp sq lp lq n b (eucS a b) (hz.step hp hq hL sp sq lp lq h0) (by omega)
/-- shared's rows are small -/
theorem shT_sz2 {m L : Nat} {p q : List Rat} (hp : IsRow p) (hq : IsRow q) (hL : L ≤ 31) (sp : Sr m p) (sq : Sr m q) (lp : p.length ≤ L) (lq : q.length ≤ L) (p0 : p ≠ []) : Sr (zB m (2 * L)) (shT p q).1 ∧ Sr (zB m (2 * L)) (shT p q).2.1 ∧ Sr (zB m (2 * L)) (shT p q).2.2 := by
  have hm := sr_pos sp
  obtain ⟨b', hz, hb⟩ := ssz_run hp hq hL sp sq lp lq (q.length + 1) _ _ (SsZ.start hp hq sp sq lp lq hm fun _ => p0) (Nat.lt_succ_self _)
  have he : euc (q.length + 1) (p, [1], []) (q, [], [1]) = eucT p q := rfl
  rw [he] at hz
  have F := shT_facts hp hq
  have n0 : (eucT p q).1 ≠ [] := fun z => by
    obtain ⟨l, hl⟩ := F.led (.inl p0)
    have : (shT p q).1 = trim (sclL (1 / lead (eucT p q).1) (eucT p q).1) := rfl
    rw [this, z] at hl
    have h2 : ([] : List Rat) = l ++ [1] := hl
    simp at h2
  have g := hz.ga n0
  exact ⟨g.s0, g.s1, g.s2⟩
theorem shT_len {p q : List Rat} (hp : IsRow p) (hq : IsRow q) (p0 : p ≠ []) : (shT p q).2.1.length ≤ max p.length q.length + 1 ∧ (shT p q).2.2.length ≤ max p.length q.length + 1 := by
  have run : ∀ (n : Nat) (a b : T3), Ss p q a b → b.1.length < n → ∃ b', Ss p q (euc n a b) b' := fun n => by
    induction n with
    | zero => intro a b _ h; exact absurd h (Nat.not_lt_zero _)
    | succ n ih =>
      intro a b hz h
      rw [euc]
      by_cases h0 : b.1 = []
      · rw [if_pos h0]; exact ⟨b, hz⟩
      · rw [if_neg h0]
        obtain ⟨h1, h2⟩ := hz.step hp hq h0
        exact ih b (eucS a b) h1 (by omega)
  obtain ⟨b', h⟩ := run (q.length + 1) _ _ (.start hp hq) (Nat.lt_succ_self _)
  have R := h.rows hp hq (.inr p0)
  have he : euc (q.length + 1) (p, [1], []) (q, [], [1]) = eucT p q := rfl
  rw [he] at R
  have c1 := R.c1
  have c2 := R.c2
  have t1 := trim_len (sclL (1 / lead (eucT p q).1) (eucT p q).2.1)
  have t2 := trim_len (sclL (1 / lead (eucT p q).1) (eucT p q).2.2)
  rw [sclL_len] at t1 t2
  exact ⟨Nat.le_trans t1 c1, Nat.le_trans t2 c2⟩
end DL

set_option linter.all false
set_option autoImplicit false
namespace DL
/-! ### what stands over the parts -/
noncomputable def ovP (top part rest : List Rat) : List Rat := rem (trim (mulL top (shT rest part).2.1)) part
noncomputable def tpG (part : List Rat) : Nat → List Rat → List (List Rat)
  | 0, _ => []
  | n + 1, left => tpG part n (quo left part) ++ [rem left part]
theorem tpG_len (part : List Rat) : ∀ (n : Nat) (left : List Rat), (tpG part n left).length = n
  | 0, _ => rfl
  | n + 1, left => by rw [tpG, List.length_append, tpG_len part n]; rfl
theorem tpG_mem {part : List Rat} (hp : IsRow part) (p0 : part ≠ []) : ∀ (n : Nat) (left : List Rat), IsRow left → ∀ t ∈ tpG part n left, IsRow t ∧ t.length < part.length
  | 0, _, _ => fun t ht => nomatch ht
  | n + 1, left, hl => fun t ht => by
    have dv := dv_of hl hp p0
    rw [tpG] at ht
    rcases List.mem_append.mp ht with ht | ht
    · exact tpG_mem hp p0 n _ dv.rw_ t ht
    · rw [List.mem_singleton.mp ht]
      exact ⟨dv.rl, dv.lt⟩
/-- by the powers from the highest down -/
def psum (part : List Rat) : List (List Rat) → List Rat
  | [] => []
  | t :: ts => addL (mulL t (powR part ts.length)) (psum part ts)
theorem psum_snoc (part : List Rat) (r : List Rat) (x : Rat) : ∀ ts : List (List Rat), ev (psum part (ts ++ [r])) x = ev (psum part ts) x * ev part x + ev r x
  | [] => by
    show ev (addL (mulL r (powR part 0)) []) x = ev [] x * _ + _
    rw [ev_add, ev_mul, ev_powR, Rat.pow_zero, ev_nil]
    grind
  | t :: ts => by
    show ev (addL (mulL t (powR part (ts ++ [r]).length)) (psum part (ts ++ [r]))) x = ev (addL (mulL t (powR part ts.length)) (psum part ts)) x * _ + _
    rw [ev_add, ev_add, ev_mul, ev_mul, psum_snoc part r x ts, List.length_append, ev_powR, ev_powR]
    show _ * ev part x ^ (ts.length + 1) + _ = _
    rw [Rat.pow_succ]
    grind
theorem quo_len2 {left part : List Rat} (hl : IsRow left) (hp : IsRow part) (p0 : part ≠ []) : (quo left part).length + part.length ≤ left.length + 1 ∨ quo left part = [] := by
  rcases Classical.em (quo left part = []) with h | h
  · exact .inr h
  · left
    have dv := dv_of hl hp p0
    have h1 := mul_row_len dv.rw_ hp h p0
    have h2 : trim (mulL (quo left part) part) = trim (addL left (sclL (-1) (rem left part))) := trim_ext _ _ fun x => by
      have := dv.eq x
      rw [ev_mul, ev_add, ev_scl]
      grind
    rw [h2] at h1
    have h3 := trim_len (addL left (sclL (-1) (rem left part)))
    rw [addL_len, sclL_len] at h3
    have h4 := dv.lt
    have h5 := List.length_pos_iff.mpr h
    omega
theorem tpG_sum {part : List Rat} (mp : Mon part) (l2 : 2 ≤ part.length) : ∀ (n : Nat) (left : List Rat), IsRow left → left.length ≤ (part.length - 1) * n → ∀ x, ev (psum part (tpG part n left)) x = ev left x
  | 0, left, hl, h => fun x => by
    rw [List.length_eq_zero_iff.mp (Nat.le_zero.mp h)]
    rfl
  | n + 1, left, hl, h => fun x => by
    have dv := dv_of hl mp.row mp.ne
    have hq : (quo left part).length ≤ (part.length - 1) * n := by
      rw [Nat.mul_succ] at h
      rcases quo_len2 hl mp.row mp.ne with z | z
      · omega
      · rw [z]; exact Nat.zero_le _
    rw [tpG, psum_snoc, tpG_sum mp l2 n _ dv.rw_ hq x, dv.eq]
/-! sums of rows -/
def sR (l : List (List Rat)) : List Rat := l.foldr addL []
theorem sR_cons (a : List Rat) (l : List (List Rat)) : sR (a :: l) = addL a (sR l) := rfl
theorem sR_dvd {g : List Rat} : ∀ l : List (List Rat), (∀ a ∈ l, Dvd g a) → Dvd g (sR l)
  | [], _ => .nil g
  | a :: l, h => by
    obtain ⟨u, hu⟩ := h a (List.mem_cons_self ..)
    obtain ⟨v, hv⟩ := sR_dvd l fun b hb => h b (List.mem_cons_of_mem _ hb)
    exact ⟨addL u v, fun x => by rw [sR_cons, ev_add, ev_add, hu, hv]; grind⟩
theorem sR_len {n : Nat} : ∀ l : List (List Rat), (∀ a ∈ l, a.length ≤ n) → (sR l).length ≤ n
  | [], _ => Nat.zero_le _
  | a :: l, h => by
    have h1 := sR_len l fun b hb => h b (List.mem_cons_of_mem _ hb)
    have h2 := h a (List.mem_cons_self ..)
    rw [sR_cons, addL_len]
    omega
theorem sR_app (l m : List (List Rat)) (x : Rat) : ev (sR (l ++ m)) x = ev (sR l) x + ev (sR m) x := by
  induction l with
  | nil => show ev (sR m) x = ev [] x + _; rw [ev_nil]; grind
  | cons a l ih => show ev (addL a (sR (l ++ m))) x = ev (addL a (sR l)) x + _; rw [ev_add, ev_add, ih]; grind
theorem ws_one_of {p : List Rat} : ∀ F : List (List Rat × Nat), vs p F ≤ 1 → ws p F = 0 ∨ ∃ e ∈ F, ws p F = e.2 * vp p e.1
  | [], _ => .inl rfl
  | a :: F, h => by
    have c1 : vs p (a :: F) = vp p a.1 + vs p F := rfl
    have c2 : ws p (a :: F) = a.2 * vp p a.1 + ws p F := rfl
    rw [c1] at h
    rcases Nat.eq_zero_or_pos (vp p a.1) with z | z
    · rcases ws_one_of (p := p) F (by omega) with h2 | ⟨e, he, h2⟩
      · left; rw [c2, h2, z]; rfl
      · right; exact ⟨e, List.mem_cons_of_mem _ he, by rw [c2, h2, z]; omega⟩
    · right
      refine ⟨a, List.mem_cons_self .., ?_⟩
      have h2 : vs p F = 0 := by omega
      have : ∀ L : List (List Rat × Nat), vs p L = 0 → ws p L = 0 := fun L => by
        induction L with
        | nil => intro _; rfl
        | cons a L ih =>
          intro hz
          have c1 : vs p (a :: L) = vp p a.1 + vs p L := rfl
          have c2 : ws p (a :: L) = a.2 * vp p a.1 + ws p L := rfl
          rw [c1] at hz
          rw [c2, ih (by omega), show vp p a.1 = 0 by omega]
          rfl
      rw [c2, this F h2]; rfl
/-- a row that all the parts' powers divide is divided by their product -/
theorem AllF.dvd_all {v : List Rat} {told : List (List Rat)} {F : List (List Rat × Nat)} (h : AllF v told F) (hv : IsRow v) (v0 : v ≠ []) {N : List Rat} (hN : IsRow N) (hd : ∀ e ∈ F, Dvd (powR e.1 e.2) N) : Dvd v N := by
  rcases Classical.em (N = []) with rfl | n0
  · exact .nil v
  · refine dvd_of_vp _ v N (Nat.le_refl _) hv hN v0 n0 fun p ip => ?_
    rw [← h.w p ip]
    rcases ws_one_of F (h.v p ip) with z | ⟨e, he, z⟩
    · rw [z]; exact Nat.zero_le _
    · have me := h.mon e he
      have := vp_dvd ip (powR_row e.1 e.2) hN n0 (hd e he)
      rw [vp_pow ip me] at this
      rw [z]; exact this
theorem AllF.other {v : List Rat} {told : List (List Rat)} {F : List (List Rat × Nat)} (h : AllF v told F) (hv : IsRow v) (v0 : v ≠ []) {i j : Nat} {e c : List Rat × Nat} (hi : F[i]? = some e) (hj : F[j]? = some c) (hij : i ≠ j) : Dvd (powR e.1 e.2) (quo v (powR c.1 c.2)) := by
  have he := List.mem_of_getElem? hi
  have hc := List.mem_of_getElem? hj
  have me := h.mon e he
  have mc := h.mon c hc
  have dc := h.divPow hv v0 hc (Nat.le_refl c.2)
  obtain ⟨q0, rq, _⟩ := quo_facts hv (powR_row c.1 c.2) v0 dc
  refine dvd_of_vp _ _ _ (Nat.le_refl _) (powR_row _ _) rq (powR_mon me _).ne q0 fun p ip => ?_
  have h1 := (vp_quo ip hv (powR_row c.1 c.2) v0 dc).1
  rw [vp_pow ip mc] at h1
  rw [vp_pow ip me]
  have h2 := h.w p ip
  have two : e.2 * vp p e.1 + c.2 * vp p c.1 ≤ ws p F := by
    have : ∀ (G : List (List Rat × Nat)) (i j : Nat) (e c : List Rat × Nat), G[i]? = some e → G[j]? = some c → i < j → e.2 * vp p e.1 + c.2 * vp p c.1 ≤ ws p G := fun G => by
      induction G with
      | nil => intro i j e c h1; cases h1
      | cons a G ih =>
        intro i j e c hi hj hlt
        have c2 : ws p (a :: G) = a.2 * vp p a.1 + ws p G := rfl
        cases j with
        | zero => exact absurd hlt (Nat.not_lt_zero _)
        | succ j =>
          cases i with
          | zero =>
            have : some a = some e := hi
            have e1 := Option.some.inj this
            have hj2 : G[j]? = some c := hj
            have := (mem_vs (p := p) (List.mem_of_getElem? hj2)).2
            rw [c2, e1]; omega
          | succ i =>
            have := ih i j e c hi hj (by omega)
            rw [c2]; omega
    rcases Nat.lt_or_ge i j with hlt | hge
    · exact this F i j e c hi hj hlt
    · have := this F j i c e hj hi (by omega)
      omega
  omega
/-- over a part: what is left, times the rest, is the top but for multiples of the part's power -/
theorem ovP_facts {top high rest : List Rat} (ht : IsRow top) (hh : Mon high) (hr : IsRow rest) (g : gcd rest high = [1]) : IsRow (ovP top high rest) ∧ (ovP top high rest).length < high.length ∧ Dvd high (trim (addL (mulL (ovP top high rest) rest) (sclL (-1) top))) := by
  have F := shT_facts hr hh.row
  have dv := dv_of (row_trim (mulL top (shT rest high).2.1)) hh.row hh.ne
  have e1 : (shT rest high).1 = [1] := g
  refine ⟨dv.rl, dv.lt, ?_⟩
  refine ⟨addL (sclL (-1) (mulL (quo (trim (mulL top (shT rest high).2.1)) high) rest)) (sclL (-1) (mulL top (shT rest high).2.2)), fun x => ?_⟩
  have h1 := dv.eq x
  have h2 := F.eq x
  rw [e1, ev_cons, ev_nil] at h2
  rw [ev_trim, ev_mul] at h1
  have h3 : ev (ovP top high rest) x = ev top x * ev (shT rest high).2.1 x - ev (quo (trim (mulL top (shT rest high).2.1)) high) x * ev high x := by
    show ev (rem _ _) x = _
    rw [h1]; grind
  rw [ev_trim, ev_add, ev_scl, ev_mul, h3, ev_add, ev_scl, ev_scl, ev_mul, ev_mul]
  grind
theorem AllF.rest_one {v : List Rat} {told : List (List Rat)} {F : List (List Rat × Nat)} (h : AllF v told F) (mv : Mon v) {e : List Rat × Nat} (he : e ∈ F) : Mon (quo v (powR e.1 e.2)) ∧ gcd (quo v (powR e.1 e.2)) (powR e.1 e.2) = [1] ∧ (∀ x, ev v x = ev (quo v (powR e.1 e.2)) x * ev (powR e.1 e.2) x) ∧ (quo v (powR e.1 e.2)).length + (powR e.1 e.2).length = v.length + 1 := by
  have me := h.mon e he
  have mw := powR_mon me e.2
  have d := h.divPow mv.row mv.ne he (Nat.le_refl e.2)
  have mq := quo_mon mv mw d
  refine ⟨mq, gcd_vp_one mq.row mw.row mq.ne mw.ne fun p ip => ?_, (quo_dvd mv.row mw.row mw.ne d).2, (quo_facts mv.row mw.row mv.ne d).2.2⟩
  have h1 := (vp_quo ip mv.row mw.row mv.ne d).1
  rw [← h.w p ip, vp_pow ip me] at h1
  rw [vp_pow ip me]
  rcases Nat.eq_zero_or_pos (vp p e.1) with z | z
  · right; rw [z]; rfl
  · left
    have hv := h.v p ip
    have h3 := (mem_vs (p := p) he).1
    rcases ws_one_of F hv with z2 | ⟨c, hc, z2⟩
    · omega
    · have : c.2 * vp p c.1 ≤ e.2 * vp p e.1 := by
        rcases Nat.eq_zero_or_pos (vp p c.1) with z4 | z4
        · rw [z4, Nat.mul_zero]; exact Nat.zero_le _
        · -- the same place
          obtain ⟨i, hi⟩ := List.getElem?_of_mem he
          obtain ⟨j, hj⟩ := List.getElem?_of_mem hc
          rcases Classical.em (i = j) with rfl | hne
          · rw [hi] at hj
            rw [Option.some.inj hj]
            exact Nat.le_refl _
          · exfalso
            have two : ∀ (G : List (List Rat × Nat)) (i j : Nat) (e c : List Rat × Nat), G[i]? = some e → G[j]? = some c → i < j → vp p e.1 + vp p c.1 ≤ vs p G := fun G => by
              induction G with
              | nil => intro i j e c h1; cases h1
              | cons a G ih =>
                intro i j e c hi hj hlt
                have c1 : vs p (a :: G) = vp p a.1 + vs p G := rfl
                cases j with
                | zero => exact absurd hlt (Nat.not_lt_zero _)
                | succ j =>
                  cases i with
                  | zero =>
                    have : some a = some e := hi
                    have e1 := Option.some.inj this
                    have hj2 : G[j]? = some c := hj
                    have := (mem_vs (p := p) (List.mem_of_getElem? hj2)).1
                    rw [c1, e1]; omega
                  | succ i =>
                    have := ih i j e c hi hj (by omega)
                    rw [c1]; omega
            rcases Nat.lt_or_ge i j with hlt | hge
            · have := two F i j e c hi hj hlt; omega
            · have := two F j i c e hj hi (by omega); omega
      omega
/-- a top over v is the sum of what stands over the powers of the parts -/
theorem parts_sum {v : List Rat} {told : List (List Rat)} {F : List (List Rat × Nat)} (h : AllF v told F) (mv : Mon v) {top : List Rat} (ht : IsRow top) (hl : top.length < v.length) :
    ∀ x, ev (sR (F.map fun e => mulL (ovP top (powR e.1 e.2) (quo v (powR e.1 e.2))) (quo v (powR e.1 e.2)))) x = ev top x := by
  have fact : ∀ e ∈ F, IsRow (ovP top (powR e.1 e.2) (quo v (powR e.1 e.2))) ∧ (ovP top (powR e.1 e.2) (quo v (powR e.1 e.2))).length < (powR e.1 e.2).length ∧ Dvd (powR e.1 e.2) (trim (addL (mulL (ovP top (powR e.1 e.2) (quo v (powR e.1 e.2))) (quo v (powR e.1 e.2))) (sclL (-1) top))) := fun e he => by
    obtain ⟨mq, g, _, _⟩ := h.rest_one mv he
    exact ovP_facts ht (powR_mon (h.mon e he) _) mq.row g
  have dN : ∀ e ∈ F, Dvd (powR e.1 e.2) (trim (addL (sR (F.map fun e => mulL (ovP top (powR e.1 e.2) (quo v (powR e.1 e.2))) (quo v (powR e.1 e.2)))) (sclL (-1) top))) := fun e he => by
    obtain ⟨i, hi⟩ := List.getElem?_of_mem he
    have hlt : i < F.length := (List.getElem?_eq_some_iff.mp hi).1
    have hsplit : F = F.take i ++ e :: F.drop (i + 1) := by
      have h1 : F.drop i = e :: F.drop (i + 1) := by
        rw [List.drop_eq_getElem_cons hlt]
        have : F[i] = e := by
          have := List.getElem?_eq_getElem hlt
          rw [hi] at this
          exact (Option.some.inj this).symm
        rw [this]
      rw [← h1, List.take_append_drop]
    have oth : ∀ c, c ∈ F.take i ∨ c ∈ F.drop (i + 1) → Dvd (powR e.1 e.2) (quo v (powR c.1 c.2)) := fun c hc => by
      rcases hc with hc | hc
      · obtain ⟨j, hj⟩ := List.getElem?_of_mem hc
        have hj1 := (List.getElem?_eq_some_iff.mp hj).1
        rw [List.length_take] at hj1
        have hj2 : F[j]? = some c := by
          rw [List.getElem?_take] at hj
          split at hj
          · exact hj
          · cases hj
        exact h.other mv.row mv.ne hi hj2 (by omega)
      · obtain ⟨j, hj⟩ := List.getElem?_of_mem hc
        rw [List.getElem?_drop] at hj
        exact h.other mv.row mv.ne hi hj (by omega)
    have mulD : ∀ (a b : List Rat), Dvd (powR e.1 e.2) b → Dvd (powR e.1 e.2) (mulL a b) := fun a b hb => by
      obtain ⟨u, hu⟩ := hb
      exact ⟨mulL a u, fun x => by rw [ev_mul, hu, ev_mul]; grind⟩
    obtain ⟨u1, h1⟩ := sR_dvd (g := powR e.1 e.2) ((F.take i).map fun e => mulL (ovP top (powR e.1 e.2) (quo v (powR e.1 e.2))) (quo v (powR e.1 e.2))) fun a ha => by
      obtain ⟨c, hc, rfl⟩ := List.mem_map.mp ha
      exact mulD _ _ (oth c (.inl hc))
    obtain ⟨u2, h2⟩ := sR_dvd (g := powR e.1 e.2) ((F.drop (i + 1)).map fun e => mulL (ovP top (powR e.1 e.2) (quo v (powR e.1 e.2))) (quo v (powR e.1 e.2))) fun a ha => by
      obtain ⟨c, hc, rfl⟩ := List.mem_map.mp ha
      exact mulD _ _ (oth c (.inr hc))
    obtain ⟨u3, h3⟩ := (fact e he).2.2
    refine ⟨addL u3 (addL u1 u2), fun x => ?_⟩
    have e1 : ev (sR (F.map fun e => mulL (ovP top (powR e.1 e.2) (quo v (powR e.1 e.2))) (quo v (powR e.1 e.2)))) x = ev (sR ((F.take i).map fun e => mulL (ovP top (powR e.1 e.2) (quo v (powR e.1 e.2))) (quo v (powR e.1 e.2)))) x + (ev (mulL (ovP top (powR e.1 e.2) (quo v (powR e.1 e.2))) (quo v (powR e.1 e.2))) x + ev (sR ((F.drop (i + 1)).map fun e => mulL (ovP top (powR e.1 e.2) (quo v (powR e.1 e.2))) (quo v (powR e.1 e.2)))) x) := by
      have : F.map (fun e => mulL (ovP top (powR e.1 e.2) (quo v (powR e.1 e.2))) (quo v (powR e.1 e.2))) = (F.take i).map (fun e => mulL (ovP top (powR e.1 e.2) (quo v (powR e.1 e.2))) (quo v (powR e.1 e.2))) ++ ([mulL (ovP top (powR e.1 e.2) (quo v (powR e.1 e.2))) (quo v (powR e.1 e.2))] ++ (F.drop (i + 1)).map fun e => mulL (ovP top (powR e.1 e.2) (quo v (powR e.1 e.2))) (quo v (powR e.1 e.2))) := by
        conv => lhs; rw [hsplit]
        rw [List.map_append, List.map_cons]
        rfl
      rw [this, sR_app, sR_app]
      congr 1
      congr 1
      show ev (addL _ []) x = _
      rw [ev_add, ev_nil]; grind
    have h3 := h3 x
    rw [ev_trim, ev_add, ev_scl] at h3
    rw [ev_trim, ev_add, ev_scl, e1, h1, h2, ev_add, ev_add]
    grind
  have hD := h.dvd_all mv.row mv.ne (row_trim _) dN
  have len : (trim (addL (sR (F.map fun e => mulL (ovP top (powR e.1 e.2) (quo v (powR e.1 e.2))) (quo v (powR e.1 e.2)))) (sclL (-1) top))).length < v.length := by
    refine Nat.lt_of_le_of_lt (trim_len _) ?_
    rw [addL_len, sclL_len]
    have := sR_len (n := v.length - 1) (F.map fun e => mulL (ovP top (powR e.1 e.2) (quo v (powR e.1 e.2))) (quo v (powR e.1 e.2))) fun a ha => by
      obtain ⟨e, he, rfl⟩ := List.mem_map.mp ha
      obtain ⟨mq, _, _, lq⟩ := h.rest_one mv he
      have := mulL_len1 (ovP top (powR e.1 e.2) (quo v (powR e.1 e.2))) (quo v (powR e.1 e.2)) mq.ne
      have := (fact e he).2.1
      omega
    omega
  have z := dvd_short mv.row mv.ne (row_trim _) hD len
  intro x
  have := (row_eq_nil_iff (row_trim _)).mp z x
  rw [ev_trim, ev_add, ev_scl] at this
  grind
end DL

set_option linter.all false
set_option autoImplicit false
set_option maxRecDepth 10000
set_option maxHeartbeats 400000
namespace DL
open PySem PySem.Spec L2
local macro_rules | `(tactic| walk_at "dl") => `(tactic| simp -implicitDefEqProofs only [wSeq, wNext, wSet, wSetL, wAsg, wPar, parD, wRet, wExpr, wApp, wSetIx, wIf, wFrz, wRaise, wBreak, wCont, eVar, eC, eOp, tBl, dI, dB, dAdd, dSub, dMul, dFdiv, dMod, dPow, eNeg, dLt, dLe, dGt, dGe, dEq, dNe, dIs, dIsNot, eAnd, eOr, eNot, tAndD, tOrD, tNotD,
  aNil, aCons, eTup, eLst, lLst, eL, dIx, eSl, dSl, oNo, oSome, eCB, cLen, cAbs, cMax, cMin, cTuple, cList, cInt, eIsi, isiD, dName, dTupT, dCons, dNil, eCell, cellP, eIxO, eLenO, eCall, startΓ, startS, List.getElem?_cons_zero, List.getElem?_cons_succ, List.set, List.map, List.length, List.replicate, List.append, List.cons_append, List.nil_append, Nat.sub_self, Nat.reduceAdd, Nat.reduceSub, true_and, ixD_0, ixD_1, ixD_2, ixD_3, ixD_4, ixD_5, ixD_6, ixD_7, ixD_8, ixD_9, ixD_10, ixD_11, ixD_12, ixD_13, ixD_14, ixD_15, ixD_16, ixD_17, ixD_18, ixD_19])
/-! ### shared, and what stands over the parts, walked -/
def yB (m L : Nat) : Nat := (4 * L + 6) * (zB m (2 * L) + 1)
def sB (m L : Nat) : Nat := (2 * L + 12) * (yB m L + 10)
def R_shared (py : Prop) : List D → Res → Prop := fun ds r => ∃ (p q : List Rat) (m L : Nat), ds = [rowD p, rowD q] ∧ IsRow p ∧ IsRow q ∧ p ≠ [] ∧ p.length ≤ L ∧ q.length ≤ L ∧ L ≤ 31 ∧ Sr m p ∧ Sr m q ∧ Lim py (sB m L) ∧ r = .ok (tD (shT p q))
def R_powered (py : Prop) : List D → Res → Prop := R__law_power py
def w_shared (Ex : Nat → Prop) (py : Prop) : DS :=
  (wSeq (wSet 2 (eTup (aCons (eVar 0) (aCons (eC c_ONE) (aCons (eTup aNil) aNil)))))
  (wSeq (wSet 3 (eTup (aCons (eVar 1) (aCons (eTup aNil) (aCons (eC c_ONE) aNil)))))
  (wSeq (wWhile (tBl (eOp dGt (eCB cLen (aCons (eOp dIx (eVar 3) (eC (.int 0))) aNil)) (eC (.int 0))))
  (wSeq (wAsg (dTupT (dCons (dName 7) (dCons (dName 8) dNil))) (eCall Ex (R_divide py) (aCons (eOp dIx (eVar 2) (eC (.int 0))) (aCons (eOp dIx (eVar 3) (eC (.int 0))) aNil))))
  (wSeq (wSet 5 (eCall Ex (R_add py) (aCons (eOp dIx (eVar 2) (eC (.int 1))) (aCons (eCall Ex (R_scale py) (aCons (eCall Ex (R_multiply py) (aCons (eVar 7) (aCons (eOp dIx (eVar 3) (eC (.int 1))) aNil))) (aCons (eC c_MINUS) aNil))) aNil))))
  (wSeq (wSet 6 (eCall Ex (R_add py) (aCons (eOp dIx (eVar 2) (eC (.int 2))) (aCons (eCall Ex (R_scale py) (aCons (eCall Ex (R_multiply py) (aCons (eVar 7) (aCons (eOp dIx (eVar 3) (eC (.int 2))) aNil))) (aCons (eC c_MINUS) aNil))) aNil))))
  (wPar 2 3 (aCons (eVar 3) (aCons (eTup (aCons (eVar 8) (aCons (eVar 5) (aCons (eVar 6) aNil)))) aNil)))))))
  (wSeq (wIf (tBl (eOp dEq (eCB cLen (aCons (eOp dIx (eVar 2) (eC (.int 0))) aNil)) (eC (.int 0))))
  (wRet (eTup (aCons (eTup aNil) (aCons (eTup aNil) (aCons (eTup aNil) aNil)))))
  wNext)
  (wSeq (wSet 4 (eCall Ex (R_part_of py) (aCons (eTup (aCons (eC (.int 1)) (aCons (eC (.int 1)) aNil))) (aCons (eOp dIx (eOp dIx (eVar 2) (eC (.int 0))) (eNeg (eC (.int 1)))) aNil))))
  (wRet (eTup (aCons (eCall Ex (R_scale py) (aCons (eOp dIx (eVar 2) (eC (.int 0))) (aCons (eVar 4) aNil))) (aCons (eCall Ex (R_scale py) (aCons (eOp dIx (eVar 2) (eC (.int 1))) (aCons (eVar 4) aNil))) (aCons (eCall Ex (R_scale py) (aCons (eOp dIx (eVar 2) (eC (.int 2))) (aCons (eVar 4) aNil))) aNil))))))))))

def w_powered (Ex : Nat → Prop) (py : Prop) : DS :=
  (wSeq (wSet 2 (eC c_ONE))
  (wSeq (wFor (iR1 (aCons (eVar 1) aNil)) (dName 3)
  (wSet 2 (eCall Ex (R_multiply py) (aCons (eVar 2) (aCons (eVar 0) aNil)))))
  (wRet (eVar 2))))

theorem sB_lo {m L d : Nat} (hd : d ≤ L + 1) : 2 * (yB m L + d * (yB m L + 1)) + 8 * yB m L + 60 ≤ sB m L := by
  have h1 : d * (yB m L + 1) ≤ (L + 1) * (yB m L + 1) := Nat.mul_le_mul_right _ hd
  have h2 : (L + 1) * (yB m L + 1) = L * yB m L + L + yB m L + 1 := by grind
  have h3 : sB m L = 2 * (L * yB m L) + 12 * yB m L + 20 * L + 120 := by unfold sB; grind
  omega
theorem pure_shared (py : Prop) (ds : List D) (r : Res) (h : R_shared py ds r) : w_shared (fun g => r = .err g) py (endsOf r) (startΓ ["one", "other", "ahead", "behind", "by", "first", "second", "whole", "left"] ds) := by
  obtain ⟨p, q, m, L, rfl, hp, hq, p0, lp, lq, hL, sp, sq, hl, rfl⟩ := h
  have hm := sr_pos sp
  have mz := le_zB m L
  have yZ : ∀ n, zB m (2 * L) + kB (zB m (2 * L)) L n ≤ yB m L := fun n => by
    unfold kB yB
    have h1 : (1 + 4 * (L + 1 - n)) * (zB m (2 * L) + 1) ≤ (4 * L + 5) * (zB m (2 * L) + 1) := Nat.mul_le_mul_right _ (by omega)
    have h2 : (4 * L + 6) * (zB m (2 * L) + 1) = (4 * L + 5) * (zB m (2 * L) + 1) + (zB m (2 * L) + 1) := by rw [← Nat.succ_mul]
    omega
  have rowY : ∀ (x : T3), IsRow x.1 → x.1 ≠ [] → IsRow x.2.1 → IsRow x.2.2 → Gdd (zB m (2 * L)) (kB (zB m (2 * L)) L x.1.length) x → Sr (yB m L) x.1 ∧ Sr (yB m L) x.2.1 ∧ Sr (yB m L) x.2.2 := fun x h0 hn h1 h2 g => by
    have ln := lead_ne h0 hn
    have := yZ x.1.length
    exact ⟨(unled ln h0 g.l g.s0).up this, (unled ln h1 g.l g.s1).up this, (unled ln h2 g.l g.s2).up this⟩
  unfold w_shared
  refine seq_go fun nx hnx => ?_
  walk_at "dl"
  refine hnx _ ?_
  refine seq_go fun nx hnx => ?_
  walk_at "dl"
  refine hnx _ ?_
  refine seq_go fun nx hnx => ?_
  refine wh_inv (fun (n : Nat) (Γ : Ct) => ∃ (a b : T3) (x4 x5 x6 x7 x8 : En), b.1.length < n ∧ euc n a b = eucT p q ∧ SsZ m L p q a b ∧ Γ = [.im (rowD p), .im (rowD q), .im (tD a), .im (tD b), x4, x5, x6, x7, x8]) (fun n nx' Γ hn' hI => ?_) (n := q.length + 1)
    ⟨(p, [1], []), (q, [], [1]), .no, .no, .no, .no, .no, Nat.lt_succ_self _, rfl, SsZ.start hp hq sp sq lp lq hm fun _ => p0, rfl⟩
  obtain ⟨a, b, x4, x5, x6, x7, x8, hn, he, hz, rfl⟩ := hI
  have R := hz.st.rows hp hq (.inr p0)
  have la := R.la
  have lb := R.lb
  have c1 := R.c1
  have c2 := R.c2
  have c3 := R.c3
  have c4 := R.c4
  show (match decide ((0 : Int) < (((b.1.map frD).length : Nat) : Int)) with
    | true => _
    | false => nx _)
  rw [List.length_map]
  cases n with
  | zero => exact absurd hn (Nat.not_lt_zero _)
  | succ n =>
    rw [euc] at he
    by_cases b0 : b.1 = []
    · rw [if_pos b0] at he
      rw [decide_eq_false (by rw [b0]; decide)]
      refine hnx _ ?_
      have esh : shT p q = (trim (sclL (1 / lead a.1) a.1), trim (sclL (1 / lead a.1) a.2.1), trim (sclL (1 / lead a.1) a.2.2)) := by unfold shT; rw [← he]
      refine seq_go fun nx2 hnx2 => ?_
      show (match decide (((a.1.map frD).length : Int) = 0) with
        | true => _
        | false => nx2 _)
      rw [List.length_map]
      rcases snoc_cases a.1 with a0 | ⟨l, t, hlt⟩
      · rw [decide_eq_true (by rw [a0]; rfl)]
        have e0 : (1 : Rat) / lead a.1 = 0 := by rw [a0]; exact rat_div_zero 1
        rw [esh, e0, scl_zero, scl_zero, scl_zero]
        rfl
      · rw [decide_eq_false (by rw [hlt, List.length_append]; show ¬ ((l.length + 1 : Nat) : Int) = 0; omega)]
        refine hnx2 _ ?_
        have ra := R.ra
        have t0 : t ≠ 0 := by rw [hlt] at ra; exact snoc_row ra
        have an : a.1 ≠ [] := by rw [hlt]; simp
        have g := hz.ga an
        obtain ⟨s0, s1, s2⟩ := rowY a ra an R.r1 R.r2 g
        have e1 : lead a.1 = t := by rw [hlt, lead_snoc]
        have gt : Sz (yB m L) t := by
          have := g.l
          rw [e1] at this
          exact this.up (by have := yZ a.1.length; omega)
        have gi := sz_inv gt t0
        have lo := sB_lo (m := m) (L := L) (d := 0) (Nat.zero_le _)
        refine seq_go fun nx3 hnx3 => ?_
        show ixD (a.1.map frD) (-1) _
        rw [show a.1.map frD = l.map frD ++ [frD t] by rw [hlt, map_snoc], ixD_last]
        refine call_ok (d := frD (1 / t)) ⟨1, t, 1, yB m L, rfl, ⟨by decide, by decide⟩, gt, hl.low (by omega), by rw [if_neg t0]⟩ (hnx3 _ ?_)
        unfold tD
        walk_at "dl"
        refine call_ok ⟨a.1, 1 / t, yB m L, yB m L + 1, rfl, s0.az, gi, hl.low (by omega), by omega, rfl⟩ ?_
        refine call_ok ⟨a.2.1, 1 / t, yB m L, yB m L + 1, rfl, s1.az, gi, hl.low (by omega), by omega, rfl⟩ ?_
        refine call_ok ⟨a.2.2, 1 / t, yB m L, yB m L + 1, rfl, s2.az, gi, hl.low (by omega), by omega, rfl⟩ ?_
        rw [esh, e1]
    · rw [if_neg b0] at he
      have l1 := List.length_pos_iff.mpr b0
      rw [decide_eq_true (by omega)]
      have a0 := hz.a0 b0
      obtain ⟨s0, s1, s2⟩ := rowY a R.ra a0 R.r1 R.r2 (hz.ga a0)
      obtain ⟨u0, u1, u2⟩ := rowY b R.rb b0 R.r3 R.r4 (hz.gb b0)
      have hlt := (hz.st.step hp hq b0).2
      have hz' := hz.step hp hq hL sp sq lp lq b0
      obtain ⟨t1, t2⟩ := dv_bits (d := a.1.length + 1 - b.1.length) R.ra R.rb b0 s0 u0 (by omega)
      have lo := sB_lo (m := m) (L := L) (d := a.1.length + 1 - b.1.length) (by omega)
      have ql := quo_len R.ra R.rb b0
      have yp := sr_pos s0
      generalize hY : yB m L = Y at s0 s1 s2 u0 u1 u2 t1 t2 lo yp
      generalize (a.1.length + 1 - b.1.length) * (Y + 1) = W at t1 t2 lo
      refine seq_go fun nx2 hnx2 => ?_
      unfold tD wAsg
      walk_at "dl"
      refine call_ok ⟨a.1, b.1, Y, Y, a.1.length + 1 - b.1.length, rfl, R.ra, R.rb, b0, s0, u0, by omega, by omega, by omega, ?_, rfl⟩ ?_
      · have lo2 := sB_lo (m := m) (L := L) (d := a.1.length + 1 - b.1.length) (by omega)
        rw [hY] at lo2
        exact hl.low (by omega)
      refine hnx2 _ ?_
      have cofac : ∀ (s t : List Rat), Sr Y s → Sr Y t → s.length ≤ max p.length q.length + 1 → t.length ≤ max p.length q.length + 1 → ∀ (Ex : Nat → Prop) (P : D → Prop), P (rowD (co s t (quo a.1 b.1))) →
          ∃ r, R_multiply py [rowD (quo a.1 b.1), rowD t] r ∧ match r with
            | .ok d1 => ∃ r, R_scale py [d1, frD (-1)] r ∧ match r with
              | .ok d2 => ∃ r, R_add py [rowD s, d2] r ∧ match r with
                | .ok d3 => P d3
                | .err g => Ex g
              | .err g => Ex g
            | .err g => Ex g := fun s t hs ht ls lt Ex P hP => by
        have lm := trim_len (mulL (quo a.1 b.1) t)
        have lm2 := mulL_len (quo a.1 b.1) t
        have ls2 := trim_len (sclL (-1) (trim (mulL (quo a.1 b.1) t)))
        rw [sclL_len] at ls2
        have g1 : Sr (Y + W + Y + Y + 6) (trim (mulL (quo a.1 b.1) t)) := (t2.mul ht (k := 6) (by omega)).trim
        refine call_ok ⟨quo a.1 b.1, t, Y + W + Y, Y, rfl, t2, ht, hl.low (by omega), by omega, by omega, rfl⟩ ?_
        refine call_ok ⟨trim (mulL (quo a.1 b.1) t), -1, Y + W + Y + Y + 6, 1, rfl, g1.az, sz_m1, hl.low (by omega), by omega, rfl⟩ ?_
        exact call_ok ⟨s, trim (sclL (-1) (trim (mulL (quo a.1 b.1) t))), Y, Y + W + Y + Y + 6 + 1, rfl, hs.az, ((g1.scl sz_m1).trim).az, yp, hl.low (by omega), by omega, by omega, rfl⟩ hP
      refine seq_go fun nx3 hnx3 => ?_
      try unfold tD
      rw [minus_fr]
      walk_at "dl"
      refine cofac a.2.1 b.2.1 s1 u1 c1 c3 _ _ (hnx3 _ ?_)
      refine seq_go fun nx4 hnx4 => ?_
      try unfold tD
      walk_at "dl"
      refine cofac a.2.2 b.2.2 s2 u2 c2 c4 _ _ (hnx4 _ ?_)
      try unfold tD
      walk_at "dl"
      refine hn' n _ (Nat.lt_succ_self _) ⟨b, eucS a b, x4, _, _, _, _, by omega, he, hz', rfl⟩
theorem pure_powered (py : Prop) (ds : List D) (r : Res) (h : R_powered py ds r) : w_powered (fun g => r = .err g) py (endsOf r) (startΓ ["row", "power", "found", "k"] ds) := by
  obtain ⟨f, m, n, rfl, f1, f2, n1, hd, sf, hl, rfl⟩ := h
  unfold w_powered
  refine seq_go fun nx hnx => ?_
  rw [one_row]
  walk_at "dl"
  refine hnx _ ?_
  refine seq_go fun nx hnx => ?_
  unfold wFor iR1
  walk_at "dl"
  refine ⟨inR_of (by omega) (by omega), ?_⟩
  rw [Int.toNat_natCast]
  refine for_inv (fun (k : Nat) (Γ : Ct) => k ≤ n ∧ ∃ e, Γ = [.im (rowD f), .im (.int n), .im (rowD (powR f k)), e]) (fun k d nx' Γ hd' hn' hI => ?_) (fun Γ hI => ?_) ⟨Nat.zero_le _, _, rfl⟩
  · obtain ⟨_, e, rfl⟩ := hI
    obtain ⟨hk, rfl⟩ := rngD_at hd'
    have hk2 : (f.length - 1) * k ≤ (f.length - 1) * n := Nat.mul_le_mul_left _ (by omega)
    have hk3 : (m + 5) * k ≤ (m + 5) * n := Nat.mul_le_mul_left _ (by omega)
    have sp := powR_sr f1 sf (n := k) (by omega)
    have lp := powR_len f k f1
    walk_at "dl"
    exact call_ok ⟨powR f k, f, 1 + (m + 5) * k, m, rfl, sp, sf, hl.low (by omega), by omega, by omega, rfl⟩ (hn' _ ⟨hk, _, rfl⟩)
  · obtain ⟨_, e, rfl⟩ := hI
    refine hnx _ ?_
    rw [rngD_length]
    rfl
end DL

set_option linter.all false
set_option autoImplicit false
set_option maxRecDepth 10000
set_option maxHeartbeats 400000
namespace DL
open PySem PySem.Spec L2
local macro_rules | `(tactic| walk_at "dl") => `(tactic| simp -implicitDefEqProofs only [wSeq, wNext, wSet, wSetL, wAsg, wPar, parD, wRet, wExpr, wApp, wSetIx, wIf, wFrz, wRaise, wBreak, wCont, eVar, eC, eOp, tBl, dI, dB, dAdd, dSub, dMul, dFdiv, dMod, dPow, eNeg, dLt, dLe, dGt, dGe, dEq, dNe, dIs, dIsNot, eAnd, eOr, eNot, tAndD, tOrD, tNotD,
  aNil, aCons, eTup, eLst, lLst, eL, dIx, eSl, dSl, oNo, oSome, eCB, cLen, cAbs, cMax, cMin, cTuple, cList, cInt, eIsi, isiD, dName, dTupT, dCons, dNil, eCell, cellP, eIxO, eLenO, eCall, startΓ, startS, List.getElem?_cons_zero, List.getElem?_cons_succ, List.set, List.map, List.length, List.replicate, List.append, List.cons_append, List.nil_append, Nat.sub_self, Nat.reduceAdd, Nat.reduceSub, true_and, ixD_0, ixD_1, ixD_2, ixD_3, ixD_4, ixD_5, ixD_6, ixD_7, ixD_8, ixD_9, ixD_10, ixD_11, ixD_12, ixD_13, ixD_14, ixD_15, ixD_16, ixD_17, ixD_18, ixD_19])
/-! ### taken apart -/
def dB2 (m L : Nat) : Nat := (L + 33) * (m + 1)
def oB (mt m L : Nat) : Nat := mt + zB m (2 * L) + 5 + dB2 m L
def R_over_part (py : Prop) : List D → Res → Prop := fun ds r => ∃ (top high rest : List Rat) (mt m L : Nat), ds = [rowD top, rowD high, rowD rest] ∧ IsRow top ∧ Mon high ∧ IsRow rest ∧ rest ≠ [] ∧ high.length ≤ L ∧ rest.length ≤ L ∧ L ≤ 31 ∧ top.length ≤ 31 ∧ Sr mt top ∧ Sr m high ∧ Sr m rest ∧ Lim py (sB m L) ∧ Lim py (2 * oB mt m L + 3 * m + 40) ∧ r = .ok (rowD (ovP top high rest))
def tB (mt m L : Nat) : Nat := oB mt m L + L * ((L + 1) * (m + 1) + m)
noncomputable def tops (top v part : List Rat) (power : Nat) : List (List Rat) := tpG part power (ovP top (powR part power) (quo v (powR part power)))
structure TopA (py : Prop) (mt m L : Nat) (top v part : List Rat) (power : Nat) : Prop where
  rt : IsRow top
  mv : Mon v
  mp : Mon part
  l2 : 2 ≤ part.length
  p1 : 1 ≤ power
  dv : Dvd (powR part power) v
  lv : v.length ≤ L
  lL : L ≤ 31
  lt : top.length ≤ 31
  st : Sr mt top
  sv : Sr m v
  pd : Pd m v
  lim : Lim py (sB m L)
  lim2 : Lim py (2 * tB mt m L + 3 * m + 40)
def R_tops_over (py : Prop) : List D → Res → Prop := fun ds r => ∃ (top v part : List Rat) (power mt m L : Nat), ds = [rowD top, rowD v, rowD part, .int power] ∧ TopA py mt m L top v part power ∧ r = .ok (.list ((tops top v part power).map rowD))
def w_over_part (Ex : Nat → Prop) (py : Prop) : DS :=
  (wSeq (wSet 3 (eOp dIx (eCall Ex (R_shared py) (aCons (eVar 2) (aCons (eVar 1) aNil))) (eC (.int 1))))
  (wRet (eOp dIx (eCall Ex (R_divide py) (aCons (eCall Ex (R_multiply py) (aCons (eVar 0) (aCons (eVar 3) aNil))) (aCons (eVar 1) aNil))) (eC (.int 1)))))

def w_tops_over (Ex : Nat → Prop) (py : Prop) : DS :=
  (wSeq (wSet 4 (eLst aNil))
  (wSeq (wSet 5 (eCall Ex (R_powered py) (aCons (eVar 2) (aCons (eVar 3) aNil))))
  (wSeq (wSet 6 (eCall Ex (R_over_part py) (aCons (eVar 0) (aCons (eVar 5) (aCons (eOp dIx (eCall Ex (R_divide py) (aCons (eVar 1) (aCons (eVar 5) aNil))) (eC (.int 0))) aNil)))))
  (wSeq (wFor (iR1 (aCons (eVar 3) aNil)) (dName 7)
  (wSeq (wAsg (dTupT (dCons (dName 6) (dCons (dName 8) dNil))) (eCall Ex (R_divide py) (aCons (eVar 6) (aCons (eVar 2) aNil))))
  (wSet 4 (eOp dAdd (eLst (aCons (eVar 8) aNil)) (eVar 4)))))
  (wRet (eVar 4))))))

theorem pure_over_part (py : Prop) (ds : List D) (r : Res) (h : R_over_part py ds r) : w_over_part (fun g => r = .err g) py (endsOf r) (startΓ ["top", "part", "rest", "back"] ds) := by
  obtain ⟨top, high, rest, mt, m, L, rfl, rt, mh, rr, r0, lh, lr, hL, lt, st, sh, sr, hl, hl2, rfl⟩ := h
  obtain ⟨_, s1, _⟩ := shT_sz2 rr mh.row hL sr sh lr lh r0
  obtain ⟨l1, _⟩ := shT_len rr mh.row r0
  have F := shT_facts rr mh.row
  unfold w_over_part ovP
  refine seq_go fun nx hnx => ?_
  walk_at "dl"
  refine call_ok ⟨rest, high, m, L, rfl, rr, mh.row, r0, lr, lh, hL, sr, sh, hl, rfl⟩ ?_
  unfold tD
  refine hnx _ ?_
  generalize (shT rest high).2.1 = back at s1 l1 ⊢
  have eo : oB mt m L = mt + zB m (2 * L) + 5 + (L + 33) * (m + 1) := rfl
  have m1 := mulR_len top back
  have sp : Sr (mt + zB m (2 * L) + 5) (trim (mulL top back)) := (st.mul s1 (k := 5) (by omega)).trim
  have d1 : ((trim (mulL top back)).length + 1 - high.length) * (m + 1) ≤ (L + 33) * (m + 1) := Nat.mul_le_mul_right _ (by omega)
  walk_at "dl"
  refine call_ok ⟨top, back, mt, zB m (2 * L), rfl, st, s1, hl2.low (by omega), by omega, by omega, rfl⟩ ?_
  exact call_ok ⟨trim (mulL top back), high, mt + zB m (2 * L) + 5, m, (trim (mulL top back)).length + 1 - high.length, rfl, row_trim _, mh.row, mh.ne, sp, sh, by omega, by omega, by omega, hl2.low (by omega), rfl⟩ rfl
theorem ovP_sz {top high rest : List Rat} {mt m L : Nat} (rt : IsRow top) (mh : Mon high) (rr : IsRow rest) (r0 : rest ≠ []) (lh : high.length ≤ L) (lr : rest.length ≤ L) (hL : L ≤ 31) (lt : top.length ≤ 31) (st : Sr mt top) (sh : Sr m high) (sr : Sr m rest) : IsRow (ovP top high rest) ∧ (ovP top high rest).length < high.length ∧ Sr (oB mt m L) (ovP top high rest) := by
  obtain ⟨_, s1, _⟩ := shT_sz2 rr mh.row hL sr sh lr lh r0
  obtain ⟨l1, _⟩ := shT_len rr mh.row r0
  unfold ovP
  generalize (shT rest high).2.1 = back at s1 l1 ⊢
  have m1 := mulR_len top back
  have sp : Sr (mt + zB m (2 * L) + 5) (trim (mulL top back)) := (st.mul s1 (k := 5) (by omega)).trim
  have dv := dv_of (row_trim (mulL top back)) mh.row mh.ne
  obtain ⟨t1, _⟩ := dv_bits (d := (trim (mulL top back)).length + 1 - high.length) (row_trim (mulL top back)) mh.row mh.ne sp sh (by omega)
  have d1 : ((trim (mulL top back)).length + 1 - high.length) * (m + 1) ≤ (L + 33) * (m + 1) := Nat.mul_le_mul_right _ (by omega)
  exact ⟨dv.rl, dv.lt, t1.up (by unfold oB dB2; omega)⟩
structure TopF (m L : Nat) (v part : List Rat) (power : Nat) : Prop where
  mw : Mon (powR part power)
  mq : Mon (quo v (powR part power))
  sw : Sr m (powR part power)
  sq : Sr m (quo v (powR part power))
  sp : Sr m part
  lw : (powR part power).length = (part.length - 1) * power + 1
  lq : (quo v (powR part power)).length + (powR part power).length = v.length + 1
  pw : 1 ≤ power → part.length ≤ L
theorem powR_len2 {part : List Rat} (mp : Mon part) : ∀ n, (powR part n).length = (part.length - 1) * n + 1
  | 0 => rfl
  | n + 1 => by
    have h := mul_row_len (powR_mon mp n).row mp.row (powR_mon mp n).ne mp.ne
    have h2 := powR_len2 mp n
    have := mp.pos
    show (trim _).length = _
    rw [Nat.mul_succ]
    omega
theorem TopA.facts {py : Prop} {mt m L : Nat} {top v part : List Rat} {power : Nat} (h : TopA py mt m L top v part power) (h1 : 1 ≤ power) : TopF m L v part power := by
  have mw := powR_mon h.mp power
  have mq := quo_mon h.mv mw h.dv
  obtain ⟨_, _, lq⟩ := quo_facts h.mv.row mw.row h.mv.ne h.dv
  have dp : Dvd part (powR part power) := by
    obtain ⟨j, rfl⟩ : ∃ j, power = j + 1 := ⟨power - 1, by omega⟩
    exact ⟨powR part j, fun x => by rw [ev_powR, ev_powR, Rat.pow_succ]⟩
  have dq : Dvd (quo v (powR part power)) v := ⟨powR part power, fun x => by rw [(quo_dvd h.mv.row mw.row mw.ne h.dv).2]; grind⟩
  exact ⟨mw, mq, h.pd _ mw h.dv, h.pd _ mq dq, h.pd _ h.mp (dp.trans h.dv), powR_len2 h.mp power, lq, fun _ => Nat.le_trans ((dp.trans h.dv).len h.mp.row h.mv.row h.mv.ne).2 h.lv⟩
theorem tpG_sz {part : List Rat} {m L : Nat} (mp : Mon part) (sp : Sr m part) : ∀ (n S : Nat) (left : List Rat), IsRow left → left.length ≤ L → Sr S left → ∀ t ∈ tpG part n left, Sr (S + n * ((L + 1) * (m + 1) + m)) t
  | 0, _, _, _, _, _ => fun t ht => nomatch ht
  | n + 1, S, left, hl, ll, sl => fun t ht => by
    have dv := dv_of hl mp.row mp.ne
    obtain ⟨t1, t2⟩ := dv_bits (d := left.length + 1 - part.length) hl mp.row mp.ne sl sp (by omega)
    have d1 : (left.length + 1 - part.length) * (m + 1) ≤ (L + 1) * (m + 1) := Nat.mul_le_mul_right _ (by omega)
    have ql := quo_len hl mp.row mp.ne
    rw [tpG] at ht
    rw [Nat.succ_mul]
    rcases List.mem_append.mp ht with ht | ht
    · exact (tpG_sz mp sp n _ _ dv.rw_ (Nat.le_trans ql ll) (t2.up (show _ ≤ S + ((L + 1) * (m + 1) + m) by omega)) t ht).up (by omega)
    · rw [List.mem_singleton.mp ht]
      exact t1.up (by omega)
theorem pure_tops_over (py : Prop) (ds : List D) (r : Res) (h : R_tops_over py ds r) : w_tops_over (fun g => r = .err g) py (endsOf r) (startΓ ["top", "bottom", "part", "power", "found", "high", "left", "k", "here"] ds) := by
  obtain ⟨top, v, part, power, mt, m, L, rfl, A, rfl⟩ := h
  have hl := A.lim2
  have lv := A.lv
  have lL := A.lL
  have l2 := A.l2
  have mw := powR_mon A.mp power
  have lw := powR_len2 A.mp power
  have mq := quo_mon A.mv mw A.dv
  obtain ⟨_, _, lq⟩ := quo_facts A.mv.row mw.row A.mv.ne A.dv
  have qp := mq.pos
  have pp : power ≤ (part.length - 1) * power := Nat.le_mul_of_pos_left _ (by omega)
  have tE : tB mt m L = oB mt m L + L * ((L + 1) * (m + 1) + m) := rfl
  have oE : oB mt m L = mt + zB m (2 * L) + 5 + (L + 33) * (m + 1) := rfl
  have mz := le_zB m L
  have zE : zB m (2 * L) = (m + 7) * (2 * L + 1) := rfl
  have hz2 : (m + 7) * (2 * L + 1) = 2 * ((m + 7) * L) + (m + 7) := by grind
  have sw : Sr m (powR part power) := A.pd _ mw A.dv
  have dq : Dvd (quo v (powR part power)) v := ⟨powR part power, fun x => by rw [(quo_dvd A.mv.row mw.row mw.ne A.dv).2]; grind⟩
  have sq : Sr m (quo v (powR part power)) := A.pd _ mq dq
  unfold w_tops_over
  refine seq_go fun nx hnx => ?_
  walk_at "dl"
  refine hnx _ ?_
  refine seq_go fun nx hnx => ?_
  have p1 := A.p1
  · have TF := A.facts p1
    have sp := TF.sp
    have lp := TF.pw p1
    have hw : (m + 5) * power ≤ (m + 7) * L := Nat.mul_le_mul (by omega) (by omega)
    walk_at "dl"
    refine call_ok ⟨part, m, power, rfl, by omega, by omega, by omega, by omega, sp, hl.low (by omega), rfl⟩ (hnx _ ?_)
    refine seq_go fun nx hnx => ?_
    walk_at "dl"
    have d1 : (v.length + 1 - (powR part power).length) * (m + 1) ≤ (L + 33) * (m + 1) := Nat.mul_le_mul_right _ (by omega)
    refine call_ok ⟨v, powR part power, m, m, v.length + 1 - (powR part power).length, rfl, A.mv.row, mw.row, mw.ne, A.sv, sw, by omega, by omega, by omega, hl.low (by omega), rfl⟩ ?_
    have rr := mq.row
    have rn := mq.ne
    refine call_ok ⟨top, powR part power, quo v (powR part power), mt, m, L, rfl, A.rt, mw, rr, rn, by omega, by omega, lL, A.lt, A.st, sw, sq, A.lim, hl.low (by omega), rfl⟩ (hnx _ ?_)
    obtain ⟨o1, o2, o3⟩ := ovP_sz (mt := mt) (m := m) (L := L) A.rt mw mq.row mq.ne (by omega) (by omega) lL A.lt A.st sw sq
    unfold tops
    generalize ovP top (powR part power) (quo v (powR part power)) = left0 at o1 o2 o3 ⊢
    refine seq_go fun nx hnx => ?_
    unfold wFor iR1
    walk_at "dl"
    refine ⟨inR_of (by omega) (by omega), ?_⟩
    rw [Int.toNat_natCast]
    refine for_inv (fun (k : Nat) (Γ : Ct) => k ≤ power ∧ ∃ (left : List Rat) (fs : List (List Rat)) (e7 e8 : En), Γ = [.im (rowD top), .im (rowD v), .im (rowD part), .im (.int power), .im (.list (fs.map rowD)), .im (rowD (powR part power)), .im (rowD left), e7, e8] ∧ IsRow left ∧ left.length ≤ L ∧ Sr (oB mt m L + k * ((L + 1) * (m + 1) + m)) left ∧ fs.length = k ∧ tpG part power left0 = tpG part (power - k) left ++ fs) (fun k d nx' Γ hd hn' hI => ?_) (fun Γ hI => ?_) ⟨Nat.zero_le _, left0, [], .no, .no, rfl, o1, by omega, by rw [Nat.zero_mul]; exact o3, rfl, by rw [List.append_nil]; rfl⟩
    · obtain ⟨_, left, fs, e7, e8, rfl, rl, ll, sl, fl, eq⟩ := hI
      obtain ⟨hk, rfl⟩ := rngD_at hd
      rw [Int.zero_add]
      have dv := dv_of rl A.mp.row A.mp.ne
      obtain ⟨t1, t2⟩ := dv_bits (d := left.length + 1 - part.length) rl A.mp.row A.mp.ne sl sp (by omega)
      have d2 : (left.length + 1 - part.length) * (m + 1) ≤ (L + 1) * (m + 1) := Nat.mul_le_mul_right _ (by omega)
      have ql := quo_len rl A.mp.row A.mp.ne
      have kk : (k + 1) * ((L + 1) * (m + 1) + m) ≤ L * ((L + 1) * (m + 1) + m) := Nat.mul_le_mul_right _ (by omega)
      have kk2 : (k + 1) * ((L + 1) * (m + 1) + m) = k * ((L + 1) * (m + 1) + m) + ((L + 1) * (m + 1) + m) := Nat.succ_mul _ _
      have e1 : power - k = (power - (k + 1)) + 1 := by omega
      rw [e1, tpG, List.append_assoc] at eq
      refine seq_go fun nx2 hnx2 => ?_
      unfold wAsg
      walk_at "dl"
      refine call_ok ⟨left, part, _, m, left.length + 1 - part.length, rfl, rl, A.mp.row, A.mp.ne, sl, sp, by omega, by omega, by omega, hl.low (by omega), rfl⟩ ?_
      refine hnx2 _ ?_
      walk_at "dl"
      refine ⟨line_le (by rw [List.length_map]; show 1 + _ ≤ _; omega), hn' _ ⟨hk, quo left part, rem left part :: fs, _, _, rfl, dv.rw_, by omega, t2.up (by omega), by rw [List.length_cons, fl], eq⟩⟩
    · obtain ⟨_, left, fs, e7, e8, rfl, rl, ll, sl, fl, eq⟩ := hI
      refine hnx _ ?_
      rw [rngD_length, Nat.sub_self] at eq
      rw [eq]
      rfl
end DL

set_option linter.all false
set_option autoImplicit false
set_option maxRecDepth 10000
set_option maxHeartbeats 400000
namespace DL
open PySem PySem.Spec L2
local macro_rules | `(tactic| walk_at "dl") => `(tactic| simp -implicitDefEqProofs only [wSeq, wNext, wSet, wSetL, wAsg, wPar, parD, wRet, wExpr, wApp, wSetIx, wIf, wFrz, wRaise, wBreak, wCont, eVar, eC, eOp, tBl, dI, dB, dAdd, dSub, dMul, dFdiv, dMod, dPow, eNeg, dLt, dLe, dGt, dGe, dEq, dNe, dIs, dIsNot, eAnd, eOr, eNot, tAndD, tOrD, tNotD,
  aNil, aCons, eTup, eLst, lLst, eL, dIx, eSl, dSl, oNo, oSome, eCB, cLen, cAbs, cMax, cMin, cTuple, cList, cInt, eIsi, isiD, dName, dTupT, dCons, dNil, eCell, cellP, eIxO, eLenO, eCall, startΓ, startS, List.getElem?_cons_zero, List.getElem?_cons_succ, List.set, List.map, List.length, List.replicate, List.append, List.cons_append, List.nil_append, Nat.sub_self, Nat.reduceAdd, Nat.reduceSub, true_and, ixD_0, ixD_1, ixD_2, ixD_3, ixD_4, ixD_5, ixD_6, ixD_7, ixD_8, ixD_9, ixD_10, ixD_11, ixD_12, ixD_13, ixD_14, ixD_15, ixD_16, ixD_17, ixD_18, ixD_19])
abbrev Pc := List Rat × List Rat × Nat
def pcT (ts : List (List Rat)) (part : List Rat) (power : Nat) : List Pc := (List.range power).filterMap fun k => if 0 < (ts.getD k []).length then some (ts.getD k [], part, k + 1) else none
noncomputable def tkL (u v : List Rat) (told : List (List Rat)) : List Pc := (allP v told).flatMap fun e => pcT (tops (rem u v) v e.1 e.2) e.1 e.2
def tpD (t : Pc) : D := .tuple [rowD t.1, rowD t.2.1, .int t.2.2]
structure TkA (py : Prop) (mu m L : Nat) (u v : List Rat) (told : List (List Rat)) : Prop where
  ru : IsRow u
  mv : Mon v
  su : Sr mu u
  sv : Sr m v
  pd : Pd m v
  lu : u.length ≤ L
  lv : v.length ≤ L
  lL : L ≤ 31
  tr : ∀ t ∈ told, IsRow t ∧ t.length ≤ L ∧ Sr m t
  tn : told.length ≤ 8
  g : Lim py (gB (bX m L) L)
  s : Lim py (sB m L)
  t : Lim py (2 * tB (mu + (L + 1) * (m + 1)) m L + 3 * m + 40)
def R_taken_apart (py : Prop) : List D → Res → Prop := fun ds r => ∃ (u v : List Rat) (told : List (List Rat)) (mu m L : Nat), ds = [.tuple [rowD u, rowD v], .list (told.map rowD)] ∧ TkA py mu m L u v told ∧ r = .ok (.tuple [rowD (quo u v), .list ((tkL u v told).map tpD)])
def R_apart (py : Prop) : List D → Res → Prop := fun ds r => ∃ d xs, ds = [d, .list xs] ∧ ((R_need_quotients py [.list [d]] (.err 2) ∧ r = .err 2) ∨ (R_need_quotients py [.list [d]] (.ok .none) ∧ xs.all isRow = false ∧ r = .err 1) ∨ (R_need_quotients py [.list [d]] (.ok .none) ∧ xs.all isRow = true ∧ R_taken_apart py [d, .list xs] r))
def w_taken_apart (Ex : Nat → Prop) (py : Prop) : DS :=
  (wSeq (wAsg (dTupT (dCons (dName 3) (dCons (dName 4) dNil))) (eCall Ex (R_divide py) (aCons (eOp dIx (eVar 0) (eC (.int 0))) (aCons (eOp dIx (eVar 0) (eC (.int 1))) aNil))))
  (wSeq (wSet 2 (eLst aNil))
  (wSeq (wFor (iLst (eCall Ex (R_parts_of py) (aCons (eOp dIx (eVar 0) (eC (.int 1))) (aCons (eVar 1) aNil)))) (dTupT (dCons (dName 5) (dCons (dName 6) dNil)))
  (wSeq (wSet 7 (eCall Ex (R_tops_over py) (aCons (eVar 4) (aCons (eOp dIx (eVar 0) (eC (.int 1))) (aCons (eVar 5) (aCons (eVar 6) aNil))))))
  (wSet 2 (eOp dAdd (eVar 2) (eL (lLc (iR1 (aCons (eVar 6) aNil)) [8] (dName 8) (tBl (eOp dGt (eCB cLen (aCons (eOp dIx (eVar 7) (eVar 8)) aNil)) (eC (.int 0)))) (eTup (aCons (eOp dIx (eVar 7) (eVar 8)) (aCons (eVar 5) (aCons (eOp dAdd (eVar 8) (eC (.int 1))) aNil))))))))))
  (wRet (eTup (aCons (eVar 3) (aCons (eVar 2) aNil)))))))

def w_apart (Ex : Nat → Prop) (py : Prop) : DS :=
  (wSeq (wExpr (eCall Ex (R_need_quotients py) (aCons (eLst (aCons (eVar 0) aNil)) aNil)))
  (wSeq (wExpr (eCall Ex (R_need_rows py) (aCons (eVar 1) aNil)))
  (wRet (eCall Ex (R_taken_apart py) (aCons (eVar 0) (aCons (eVar 1) aNil))))))

def pcF (ts : List (List Rat)) (part : List Rat) : D → Option D
  | .int k => if 0 < (ts.getD k.toNat []).length then some (tpD (ts.getD k.toNat [], part, k.toNat + 1)) else none
  | _ => none
theorem pcF_map (ts : List (List Rat)) (part : List Rat) (power : Nat) : (rngD 0 power).filterMap (pcF ts part) = (pcT ts part power).map tpD := by
  unfold rngD pcT
  rw [List.filterMap_map, List.map_filterMap]
  congr 1
  funext k
  show (if 0 < (ts.getD ((0 : Int) + (k : Nat)).toNat []).length then _ else _) = Option.map tpD (if _ then _ else _)
  rw [show ((0 : Int) + (k : Nat)).toNat = k by omega]
  split <;> rfl
theorem pcT_len (ts : List (List Rat)) (part : List Rat) (power : Nat) : (pcT ts part power).length ≤ power := by
  have := List.length_filterMap_le (fun k => if 0 < (ts.getD k []).length then some ((ts.getD k [], part, k + 1) : Pc) else none) (List.range power)
  rw [List.length_range] at this
  exact this
theorem TkA.all {py : Prop} {mu m L : Nat} {u v : List Rat} {told : List (List Rat)} (A : TkA py mu m L u v told) : AllF v told (allP v told) := allP_facts A.mv.row A.mv.ne fun t ht => (A.tr t ht).1
theorem TkA.top {py : Prop} {mu m L : Nat} {u v : List Rat} {told : List (List Rat)} (A : TkA py mu m L u v told) {e : List Rat × Nat} (he : e ∈ allP v told) : TopA py (mu + (L + 1) * (m + 1)) m L (rem u v) v e.1 e.2 := by
  have F := A.all
  have dv := dv_of A.ru A.mv.row A.mv.ne
  have lL := A.lL
  have lv := A.lv
  have lu := A.lu
  have ll := dv.lt
  obtain ⟨t1, _⟩ := dv_bits (d := u.length + 1 - v.length) A.ru A.mv.row A.mv.ne A.su A.sv (by omega)
  have d1 : (u.length + 1 - v.length) * (m + 1) ≤ (L + 1) * (m + 1) := Nat.mul_le_mul_right _ (by omega)
  exact ⟨dv.rl, A.mv, F.mon e he, (F.sq e he).l, F.k1 e he, F.divPow A.mv.row A.mv.ne he (Nat.le_refl _), lv, lL, by omega, t1.up (by omega), A.sv, A.pd, A.s, A.t⟩
theorem allP_len2 {b : List Rat} {told : List (List Rat)} {F : List (List Rat × Nat)} (h : AllF b told F) (hb : IsRow b) (b0 : b ≠ []) : F.length ≤ b.length := by
  suffices z : ∀ n, n ≤ F.length → n + 1 ≤ (PR (F.take n)).length by
    have h1 := z F.length (Nat.le_refl _)
    have h2 := ((h.divPR hb b0 F.length).len (PR_mon fun a ha => h.mon a (List.mem_of_mem_take ha)).row hb b0).2
    omega
  intro n
  induction n with
  | zero => intro _; rw [List.take_zero]; exact Nat.le_refl _
  | succ n ih =>
    intro hn
    have he : F[n]? = some F[n] := List.getElem?_eq_getElem hn
    have hm := List.mem_of_getElem? he
    have sq := h.sq _ hm
    have k1 := h.k1 _ hm
    have mA : Mon (PR (F.take n)) := PR_mon fun a ha => h.mon a (List.mem_of_mem_take ha)
    have mw := powR_mon sq.m F[n].2
    have l1 := mul_row_len mA.row mw.row mA.ne mw.ne
    have ih := ih (by omega)
    have l2 : 2 ≤ (powR F[n].1 F[n].2).length := by
      have d : Dvd F[n].1 (powR F[n].1 F[n].2) := by
        obtain ⟨j, hj⟩ : ∃ j, F[n].2 = j + 1 := ⟨F[n].2 - 1, by omega⟩
        rw [hj]
        exact ⟨powR F[n].1 j, fun x => by rw [ev_powR, ev_powR, Rat.pow_succ]⟩
      have := (d.len sq.m.row mw.row mw.ne).2
      have := sq.l
      omega
    rw [List.take_succ, he]
    show _ ≤ (PR (_ ++ [F[n]])).length
    rw [PR_snoc]
    omega
theorem AllF.pow_le {v : List Rat} {told : List (List Rat)} {F : List (List Rat × Nat)} (h : AllF v told F) (mv : Mon v) {e : List Rat × Nat} (he : e ∈ F) : e.2 < v.length := by
  have l2 := (h.sq e he).l
  have d := h.divPow mv.row mv.ne he (Nat.le_refl e.2)
  have := (d.len (powR_row _ _) mv.row mv.ne).2
  rw [powR_len2 (h.mon e he)] at this
  have : e.2 ≤ (e.1.length - 1) * e.2 := Nat.le_mul_of_pos_left _ (by omega)
  omega
theorem pure_taken_apart (py : Prop) (ds : List D) (r : Res) (h : R_taken_apart py ds r) : w_taken_apart (fun g => r = .err g) py (endsOf r) (startΓ ["one", "told", "found", "whole", "top", "part", "power", "tops", "k"] ds) := by
  obtain ⟨u, v, told, mu, m, L, rfl, A, rfl⟩ := h
  have F := A.all
  have lL := A.lL
  have lv := A.lv
  have lu := A.lu
  have hl := A.t
  have vp1 := A.mv.pos
  have fl := allP_len2 F A.mv.row A.mv.ne
  have tE : tB (mu + (L + 1) * (m + 1)) m L = oB (mu + (L + 1) * (m + 1)) m L + L * ((L + 1) * (m + 1) + m) := rfl
  have oE : oB (mu + (L + 1) * (m + 1)) m L = mu + (L + 1) * (m + 1) + zB m (2 * L) + 5 + (L + 33) * (m + 1) := rfl
  have d1 : (u.length + 1 - v.length) * (m + 1) ≤ (L + 1) * (m + 1) := Nat.mul_le_mul_right _ (by omega)
  have mz := le_zB m L
  unfold w_taken_apart tkL
  refine seq_go fun nx hnx => ?_
  unfold wAsg
  walk_at "dl"
  refine call_ok ⟨u, v, mu, m, u.length + 1 - v.length, rfl, A.ru, A.mv.row, A.mv.ne, A.su, A.sv, by omega, by omega, by omega, hl.low (by omega), rfl⟩ ?_
  refine hnx _ ?_
  refine seq_go fun nx hnx => ?_
  walk_at "dl"
  refine hnx _ ?_
  refine seq_go fun nx hnx => ?_
  unfold wFor iLst
  walk_at "dl"
  refine call_ok ⟨v, told, m, L, rfl, A.mv.row, A.mv.ne, lv, lL, A.sv, A.pd, A.tr, A.tn, A.g, rfl⟩ ?_
  have TA := fun e he => A.top (e := e) he
  have PL := fun e he => F.pow_le (e := e) A.mv he
  generalize allP v told = fs at F fl TA PL hnx ⊢
  refine for_inv (fun (i : Nat) (Γ : Ct) => i ≤ fs.length ∧ (((fs.take i).flatMap fun e => pcT (tops (rem u v) v e.1 e.2) e.1 e.2).length ≤ i * 31) ∧ ∃ e5 e6 e7 e8 : En, Γ = [.im (.tuple [rowD u, rowD v]), .im (.list (told.map rowD)), .im (.list (((fs.take i).flatMap fun e => pcT (tops (rem u v) v e.1 e.2) e.1 e.2).map tpD)), .im (rowD (quo u v)), .im (rowD (rem u v)), e5, e6, e7, e8] ∧ noOwn Γ [8] = true) (fun i d nx' Γ hd hn' hI => ?_) (fun Γ hI => ?_) ⟨Nat.zero_le _, Nat.zero_le _, .no, .no, .no, .no, rfl, rfl⟩
  · obtain ⟨_, fl2, e5, e6, e7, e8, rfl, hno⟩ := hI
    rw [List.getElem?_map] at hd
    obtain ⟨e, he, rfl⟩ := Option.map_eq_some_iff.mp hd
    have hi : i < fs.length := (List.getElem?_eq_some_iff.mp he).1
    have hm1 := List.mem_of_getElem? he
    have T := TA e hm1
    have pl := PL e hm1
    have tk : fs.take (i + 1) = fs.take i ++ [e] := by rw [List.take_succ, he]; rfl
    have tl : (tops (rem u v) v e.1 e.2).length = e.2 := tpG_len _ _ _
    simp -implicitDefEqProofs only [prD, dTupT, dCons, dNil, dName, List.set]
    refine seq_go fun nx2 hnx2 => ?_
    walk_at "dl"
    refine call_ok ⟨rem u v, v, e.1, e.2, _, m, L, rfl, T, rfl⟩ (hnx2 _ ?_)
    generalize hts : tops (rem u v) v e.1 e.2 = ts at tl ⊢
    unfold lLc iR1
    walk_at "dl"
    have no8 : noOwn [En.im (.tuple [rowD u, rowD v]), En.im (.list (told.map rowD)), En.im (.list (((fs.take i).flatMap fun e => pcT (tops (rem u v) v e.1 e.2) e.1 e.2).map tpD)), En.im (rowD (quo u v)), En.im (rowD (rem u v)), En.im (rowD e.1), En.im (.int e.2), En.im (.list (ts.map rowD)), e8] [8] = true := by
      cases e8 with
      | own x => exact absurd hno (by simp [noOwn])
      | _ => rfl
    refine ⟨inR_of (by omega) (by omega), no8, ?_⟩
    rw [Int.toNat_natCast]
    refine lc_flt (pcF ts e.1) _ [] (fun d hd Q R h1 h2 => ?_) (by rw [rngD_length]; exact line_le (by show 0 + _ ≤ _; omega)) ?_
    · obtain ⟨k, hk⟩ := List.getElem?_of_mem hd
      obtain ⟨hk, rfl⟩ := rngD_at hk
      rw [Int.zero_add] at h1 h2 ⊢
      have gk : (ts.map rowD)[k]? = some (rowD ts[k]) := by rw [List.getElem?_map, List.getElem?_eq_getElem (by omega)]; rfl
      have gd : ts.getD k [] = ts[k] := by rw [List.getD_eq_getElem?_getD, List.getElem?_eq_getElem (by omega)]; rfl
      have pe : pcF ts e.1 (.int (k : Int)) = if 0 < ts[k].length then some (tpD (ts[k], e.1, k + 1)) else none := by
        show (if 0 < (ts.getD (k : Int).toNat []).length then some (tpD (ts.getD (k : Int).toNat [], e.1, (k : Int).toNat + 1)) else none) = _
        rw [Int.toNat_natCast, gd]
      rw [pe] at h1 h2
      show tBl (eOp dGt (eCB cLen (aCons (eOp dIx (eVar 7) (eVar 8)) aNil)) (eC (.int 0))) [En.im (.tuple [rowD u, rowD v]), .im (.list (told.map rowD)), .im (.list (((fs.take i).flatMap fun e => pcT (tops (rem u v) v e.1 e.2) e.1 e.2).map tpD)), .im (rowD (quo u v)), .im (rowD (rem u v)), .im (rowD e.1), .im (.int e.2), .im (.list (ts.map rowD)), .im (.int (k : Int))] fun c => match c with
        | true => eTup (aCons (eOp dIx (eVar 7) (eVar 8)) (aCons (eVar 5) (aCons (eOp dAdd (eVar 8) (eC (.int 1))) aNil))) [En.im (.tuple [rowD u, rowD v]), .im (.list (told.map rowD)), .im (.list (((fs.take i).flatMap fun e => pcT (tops (rem u v) v e.1 e.2) e.1 e.2).map tpD)), .im (rowD (quo u v)), .im (rowD (rem u v)), .im (rowD e.1), .im (.int e.2), .im (.list (ts.map rowD)), .im (.int (k : Int))] Q
        | false => R
      walk_at "dl"
      refine ixD_at k rfl gk ?_
      show (match decide ((0 : Int) < (((ts[k].map frD).length : Nat) : Int)) with
        | true => _
        | false => R)
      rw [List.length_map]
      by_cases hz : 0 < ts[k].length
      · rw [if_pos hz] at h1
        rw [decide_eq_true (by omega)]
        refine ixD_at k rfl gk ?_
        exact h1 _ rfl
      · rw [if_neg hz] at h2
        rw [decide_eq_false (by omega)]
        exact h2 rfl
    · rw [List.nil_append, pcF_map]
      have pt := pcT_len ts e.1 e.2
      refine ⟨line_le (by rw [List.length_map, List.length_map]; omega), hn' _ ⟨hi, ?_, .im (rowD e.1), .im (.int e.2), .im (.list (ts.map rowD)), e8, ?_, ?_⟩⟩
      · rw [tk, List.flatMap_append, List.length_append, List.flatMap_singleton, hts]; omega
      · rw [tk, List.flatMap_append, List.map_append, List.flatMap_singleton, hts]
      · cases e8 with
        | own x => exact absurd hno (by simp [noOwn])
        | _ => rfl
  · obtain ⟨_, fl2, e5, e6, e7, e8, rfl, hno⟩ := hI
    refine hnx _ ?_
    rw [List.length_map, List.take_length]
    rfl
theorem pure_apart (py : Prop) (ds : List D) (r : Res) (h : R_apart py ds r) : w_apart (fun g => r = .err g) py (endsOf r) (startΓ ["one", "told"] ds) := by
  obtain ⟨d, xs, rfl, h⟩ := h
  unfold w_apart
  refine seq_go fun nx hnx => ?_
  walk_at "dl"
  rcases h with ⟨h1, rfl⟩ | ⟨h1, h2, rfl⟩ | ⟨h1, h2, h3⟩
  · exact call_err 2 h1 rfl
  · refine call_ok h1 (hnx _ ?_)
    refine seq_go fun nx hnx => ?_
    walk_at "dl"
    exact call_err 1 ⟨_, rfl, by rw [h2]; rfl⟩ rfl
  · refine call_ok h1 (hnx _ ?_)
    refine seq_go fun nx hnx => ?_
    walk_at "dl"
    refine call_ok (d := .none) ⟨_, rfl, by rw [h2]; rfl⟩ (hnx _ ?_)
    walk_at "dl"
    refine ⟨r, h3, ?_⟩
    cases r <;> rfl
end DL

set_option linter.all false
set_option autoImplicit false
set_option maxRecDepth 10000
set_option maxHeartbeats 400000
namespace DL
open PySem PySem.Spec L2
local macro_rules | `(tactic| walk_at "dl") => `(tactic| simp -implicitDefEqProofs only [wSeq, wNext, wSet, wSetL, wAsg, wPar, parD, wRet, wExpr, wApp, wSetIx, wIf, wFrz, wRaise, wBreak, wCont, eVar, eC, eOp, tBl, dI, dB, dAdd, dSub, dMul, dFdiv, dMod, dPow, eNeg, dLt, dLe, dGt, dGe, dEq, dNe, dIs, dIsNot, eAnd, eOr, eNot, tAndD, tOrD, tNotD,
  aNil, aCons, eTup, eLst, lLst, eL, dIx, eSl, dSl, oNo, oSome, eCB, cLen, cAbs, cMax, cMin, cTuple, cList, cInt, eIsi, isiD, dName, dTupT, dCons, dNil, eCell, cellP, eIxO, eLenO, eCall, startΓ, startS, List.getElem?_cons_zero, List.getElem?_cons_succ, List.set, List.map, List.length, List.replicate, List.append, List.cons_append, List.nil_append, Nat.sub_self, Nat.reduceAdd, Nat.reduceSub, true_and, ixD_0, ixD_1, ixD_2, ixD_3, ixD_4, ixD_5, ixD_6, ixD_7, ixD_8, ixD_9, ixD_10, ixD_11, ixD_12, ixD_13, ixD_14, ixD_15, ixD_16, ixD_17, ixD_18, ixD_19])
/-! ### what is asked of apart -/
theorem AllF.distinct {v : List Rat} {told : List (List Rat)} {F : List (List Rat × Nat)} (h : AllF v told F) {i j : Nat} {e c : List Rat × Nat} (hi : F[i]? = some e) (hj : F[j]? = some c) (hij : i ≠ j) : e.1 ≠ c.1 := fun z => by
  have he := List.mem_of_getElem? hi
  have S := h.sq e he
  obtain ⟨p, ip, dp⟩ := irr_ex e.1.length e.1 (Nat.le_refl _) S.m.row S.l
  have v1 := (vp_pos ip S.m.row S.m.ne).mpr dp
  have hv := h.v p ip
  have two : ∀ (G : List (List Rat × Nat)) (i j : Nat) (e c : List Rat × Nat), G[i]? = some e → G[j]? = some c → i < j → vp p e.1 + vp p c.1 ≤ vs p G := fun G => by
    induction G with
    | nil => intro i j e c h1; cases h1
    | cons a G ih =>
      intro i j e c hi hj hlt
      have c1 : vs p (a :: G) = vp p a.1 + vs p G := rfl
      cases j with
      | zero => exact absurd hlt (Nat.not_lt_zero _)
      | succ j =>
        cases i with
        | zero =>
          have : some a = some e := hi
          have e1 := Option.some.inj this
          have hj2 : G[j]? = some c := hj
          have := (mem_vs (p := p) (List.mem_of_getElem? hj2)).1
          rw [c1, e1]; omega
        | succ i =>
          have := ih i j e c hi hj (by omega)
          rw [c1]; omega
  rcases Nat.lt_or_ge i j with hlt | hge
  · have := two F i j e c hi hj hlt; rw [← z] at this; omega
  · have := two F j i c e hj hi (by omega); rw [← z] at this; omega
theorem flt_congr {α β : Type} {f g : α → Option β} : ∀ {l : List α}, (∀ a ∈ l, f a = g a) → l.filterMap f = l.filterMap g
  | [], _ => rfl
  | a :: l, h => by rw [List.filterMap_cons, List.filterMap_cons, h a (List.mem_cons_self ..), flt_congr fun b hb => h b (List.mem_cons_of_mem _ hb)]
/-- the pieces of one part, from a place on -/
def pcR2 (part : List Rat) : Nat → List (List Rat) → List Pc
  | _, [] => []
  | k, t :: ts => (if 0 < t.length then [(t, part, k + 1)] else []) ++ pcR2 part (k + 1) ts
theorem pcR2_eq (part : List Rat) : ∀ (ts : List (List Rat)) (k : Nat), (List.range' k ts.length).filterMap (fun i => if 0 < (ts.getD (i - k) []).length then some ((ts.getD (i - k) [], part, i + 1) : Pc) else none) = pcR2 part k ts
  | [], k => rfl
  | t :: ts, k => by
    rw [List.length_cons, List.range'_succ, List.filterMap_cons, pcR2, ← pcR2_eq part ts (k + 1), Nat.sub_self]
    have e : (List.range' (k + 1) ts.length).filterMap (fun i => if 0 < ((t :: ts).getD (i - k) []).length then some (((t :: ts).getD (i - k) [], part, i + 1) : Pc) else none) = (List.range' (k + 1) ts.length).filterMap (fun i => if 0 < (ts.getD (i - (k + 1)) []).length then some ((ts.getD (i - (k + 1)) [], part, i + 1) : Pc) else none) := by
      refine flt_congr fun i hi => ?_
      have h := (List.mem_range'_1.mp hi).1
      have g : (t :: ts).getD (i - k) [] = ts.getD (i - (k + 1)) [] := by
        rw [show i - k = (i - (k + 1)) + 1 by omega]
        rfl
      rw [g]
    rw [e]
    have g0 : (t :: ts).getD 0 [] = t := rfl
    rw [g0]
    by_cases h : 0 < t.length
    · rw [if_pos h, if_pos h]; rfl
    · rw [if_neg h, if_neg h]; rfl
theorem pcT_eq (ts : List (List Rat)) (part : List Rat) : pcT ts part ts.length = pcR2 part 0 ts := by
  rw [← pcR2_eq, ← List.range_eq_range']
  rfl
noncomputable def pS (v : List Rat) (l : List Pc) : List Rat := sR (l.map fun a => mulL a.1 (quo v (powR a.2.1 a.2.2)))
theorem pS_app (v : List Rat) (l m : List Pc) (x : Rat) : ev (pS v (l ++ m)) x = ev (pS v l) x + ev (pS v m) x := by
  unfold pS
  rw [List.map_append, sR_app]
theorem pS_cons (v : List Rat) (a : Pc) (x : Rat) : ev (pS v [a]) x = ev a.1 x * ev (quo v (powR a.2.1 a.2.2)) x := by
  show ev (addL _ []) x = _
  rw [ev_add, ev_mul, ev_nil]; grind
theorem quo_pow {v part : List Rat} {n j : Nat} (mv : Mon v) (mp : Mon part) (hd : Dvd (powR part n) v) (hj : j ≤ n) : ∀ x, ev (quo v (powR part j)) x = ev part x ^ (n - j) * ev (quo v (powR part n)) x := by
  have mn := powR_mon mp n
  have mj := powR_mon mp j
  have dj : Dvd (powR part j) (powR part n) := ⟨powR part (n - j), fun x => by rw [ev_powR, ev_powR, ev_powR, ← rpow_add, Nat.sub_add_cancel hj]⟩
  obtain ⟨_, h1⟩ := quo_dvd mv.row mj.row mj.ne (dj.trans hd)
  obtain ⟨_, h2⟩ := quo_dvd mv.row mn.row mn.ne hd
  intro x
  refine (ev_cancel2 mp.row mp.ne j (a := quo v (powR part j)) (b := mulL (powR part (n - j)) (quo v (powR part n))) (fun y => ?_) x).trans (by rw [ev_mul, ev_powR])
  have e1 := h1 y
  have e2 := h2 y
  rw [ev_powR] at e1 e2
  rw [ev_mul, ev_powR]
  have : ev part y ^ n = ev part y ^ (n - j) * ev part y ^ j := by rw [← rpow_add, Nat.sub_add_cancel hj]
  rw [this] at e2
  grind
theorem pcR2_sum {v part : List Rat} {n : Nat} (mv : Mon v) (mp : Mon part) (hd : Dvd (powR part n) v) (x : Rat) : ∀ (ts : List (List Rat)) (k : Nat), k + ts.length = n → ev (pS v (pcR2 part k ts)) x = ev (psum part ts) x * ev (quo v (powR part n)) x
  | [], k, _ => by show (0 : Rat) = 0 * _; rw [Rat.zero_mul]
  | t :: ts, k, hk => by
    rw [List.length_cons] at hk
    rw [pcR2, pS_app, pcR2_sum mv mp hd x ts (k + 1) (by omega), psum, ev_add, ev_mul, ev_powR]
    have q := quo_pow mv mp hd (j := k + 1) (by omega) x
    rw [show n - (k + 1) = ts.length by omega] at q
    by_cases h : 0 < t.length
    · rw [if_pos h, pS_cons, q]
      grind
    · rw [if_neg h]
      have t0 : t = [] := List.length_eq_zero_iff.mp (by omega)
      rw [t0, ev_nil]
      show (0 : Rat) + _ = _
      grind
/-- all the pieces together are the top -/
theorem pieces_sum {v : List Rat} {told : List (List Rat)} (h : AllF v told (allP v told)) (mv : Mon v) {u : List Rat} (ru : IsRow u) : ∀ x, ev (pS v (tkL u v told)) x = ev (rem u v) x := by
  have dv := dv_of ru mv.row mv.ne
  have P := parts_sum h mv dv.rl dv.lt
  intro x
  rw [← P x]
  unfold tkL
  have one : ∀ e ∈ allP v told, ev (pS v (pcT (tops (rem u v) v e.1 e.2) e.1 e.2)) x = ev (mulL (ovP (rem u v) (powR e.1 e.2) (quo v (powR e.1 e.2))) (quo v (powR e.1 e.2))) x := fun e he => by
    have S := h.sq e he
    obtain ⟨mq, g, _, _⟩ := h.rest_one mv he
    obtain ⟨o1, o2, _⟩ := ovP_facts dv.rl (powR_mon S.m e.2) mq.row g
    have d := h.divPow mv.row mv.ne he (Nat.le_refl e.2)
    have l := powR_len2 S.m e.2
    have tl : (tops (rem u v) v e.1 e.2).length = e.2 := tpG_len _ _ _
    have e1 : pcT (tops (rem u v) v e.1 e.2) e.1 e.2 = pcR2 e.1 0 (tops (rem u v) v e.1 e.2) := by
      rw [← pcT_eq, tl]
    rw [e1, pcR2_sum mv S.m d x _ 0 (by omega)]
    unfold tops
    rw [tpG_sum S.m S.l e.2 _ o1 (by omega), ev_mul]
  generalize allP v told = F at one ⊢
  induction F with
  | nil => rfl
  | cons e F ih =>
    rw [List.flatMap_cons, pS_app, one e (List.mem_cons_self ..), ih fun c hc => one c (List.mem_cons_of_mem _ hc), List.map_cons, sR_cons, ev_add]
structure PcF (F : List (List Rat × Nat)) (i : Nat) (a : Pc) : Prop where
  e : ∃ k, F[i]? = some (a.2.1, k) ∧ a.2.2 ≤ k
  k1 : 1 ≤ a.2.2
  r : IsRow a.1
  n0 : 0 < a.1.length
  lt : a.1.length < a.2.1.length
theorem pcR2_mem {part : List Rat} : ∀ (ts : List (List Rat)) (k : Nat) (a : Pc), a ∈ pcR2 part k ts → a.1 ∈ ts ∧ 0 < a.1.length ∧ a.2.1 = part ∧ k < a.2.2 ∧ a.2.2 ≤ k + ts.length
  | [], k, a, h => nomatch h
  | t :: ts, k, a, h => by
    rw [pcR2] at h
    rcases List.mem_append.mp h with h | h
    · by_cases hz : 0 < t.length
      · rw [if_pos hz] at h
        rw [List.mem_singleton.mp h]
        exact ⟨List.mem_cons_self .., hz, rfl, Nat.lt_succ_self _, by rw [List.length_cons]; show k + 1 ≤ _; omega⟩
      · rw [if_neg hz] at h; cases h
    · obtain ⟨h1, h2, h3, h4, h5⟩ := pcR2_mem ts (k + 1) a h
      exact ⟨List.mem_cons_of_mem _ h1, h2, h3, by omega, by rw [List.length_cons]; omega⟩
theorem pcR2_ord {part : List Rat} : ∀ (ts : List (List Rat)) (k : Nat), (pcR2 part k ts).Pairwise fun a c => a.2.2 < c.2.2
  | [], k => .nil
  | t :: ts, k => by
    rw [pcR2, List.pairwise_append]
    refine ⟨?_, pcR2_ord ts (k + 1), fun a ha c hc => ?_⟩
    · split
      · exact List.pairwise_singleton _ _
      · exact .nil
    · have h1 := (pcR2_mem ts (k + 1) c hc).2.2.2.1
      split at ha
      · rw [List.mem_singleton.mp ha]; exact h1
      · cases ha
/-- the pieces with the places of their parts, one behind the other -/
theorem pieces_ord {v : List Rat} {told : List (List Rat)} (h : AllF v told (allP v told)) (mv : Mon v) {u : List Rat} (ru : IsRow u) : ∃ ix : Pc → Nat, (∀ a ∈ tkL u v told, PcF (allP v told) (ix a) a) ∧ (tkL u v told).Pairwise fun a c => [(ix a : Int), (a.2.2 : Int)] < [(ix c : Int), (c.2.2 : Int)] := by
  have dv := dv_of ru mv.row mv.ne
  refine ⟨fun a => (allP v told).findIdx fun e => decide (e.1 = a.2.1), ?_⟩
  have fi : ∀ (i : Nat) (e : List Rat × Nat) (a : Pc), (allP v told)[i]? = some e → a.2.1 = e.1 → ((allP v told).findIdx fun e => decide (e.1 = a.2.1)) = i := fun i e a hi ha => by
    have hlt : i < (allP v told).length := (List.getElem?_eq_some_iff.mp hi).1
    have hge : (allP v told)[i] = e := (List.getElem?_eq_some_iff.mp hi).2
    rw [List.findIdx_eq hlt]
    refine ⟨by rw [hge, ha]; exact decide_eq_true rfl, fun j hj => ?_⟩
    have hj2 : (allP v told)[j]? = some (allP v told)[j] := List.getElem?_eq_getElem (by omega)
    have := h.distinct hj2 hi (by omega)
    rw [ha]
    exact decide_eq_false this
  have mem : ∀ (i : Nat) (e : List Rat × Nat), (allP v told)[i]? = some e → ∀ a ∈ pcT (tops (rem u v) v e.1 e.2) e.1 e.2, PcF (allP v told) i a ∧ a.2.1 = e.1 := fun i e hi a ha => by
    have he := List.mem_of_getElem? hi
    have S := h.sq e he
    have tl : (tops (rem u v) v e.1 e.2).length = e.2 := tpG_len _ _ _
    have e1 : pcT (tops (rem u v) v e.1 e.2) e.1 e.2 = pcR2 e.1 0 (tops (rem u v) v e.1 e.2) := by rw [← pcT_eq, tl]
    rw [e1] at ha
    obtain ⟨h1, h2, h3, h4, h5⟩ := pcR2_mem _ 0 a ha
    obtain ⟨mq, g, _, _⟩ := h.rest_one mv he
    obtain ⟨o1, o2, _⟩ := ovP_facts dv.rl (powR_mon S.m e.2) mq.row g
    obtain ⟨t1, t2⟩ := tpG_mem S.m.row S.m.ne e.2 _ o1 a.1 h1
    rw [tl] at h5
    exact ⟨⟨⟨e.2, by rw [h3]; exact hi, by omega⟩, by omega, t1, h2, by rw [h3]; exact t2⟩, h3⟩
  constructor
  · intro a ha
    unfold tkL at ha
    obtain ⟨e, he, ha⟩ := List.mem_flatMap.mp ha
    obtain ⟨i, hi⟩ := List.getElem?_of_mem he
    obtain ⟨m1, m2⟩ := mem i e hi a ha
    show PcF _ ((allP v told).findIdx fun e => decide (e.1 = a.2.1)) a
    rw [fi i e a hi m2]
    exact m1
  · unfold tkL
    have key : ∀ (H G : List (List Rat × Nat)), allP v told = G ++ H → (H.flatMap fun e => pcT (tops (rem u v) v e.1 e.2) e.1 e.2).Pairwise (fun a c => [(((allP v told).findIdx fun e => decide (e.1 = a.2.1) : Nat) : Int), (a.2.2 : Int)] < [(((allP v told).findIdx fun e => decide (e.1 = c.2.1) : Nat) : Int), (c.2.2 : Int)]) ∧ ∀ a ∈ H.flatMap fun e => pcT (tops (rem u v) v e.1 e.2) e.1 e.2, G.length ≤ (allP v told).findIdx fun e => decide (e.1 = a.2.1) := fun H => by
      induction H with
      | nil => intro G _; exact ⟨.nil, fun a ha => nomatch ha⟩
      | cons e H ih =>
        intro G hG
        have hi : (allP v told)[G.length]? = some e := by rw [hG, List.getElem?_append_right (Nat.le_refl _), Nat.sub_self]; rfl
        obtain ⟨i1, i2⟩ := ih (G ++ [e]) (by rw [hG, List.append_assoc]; rfl)
        have ixe : ∀ a ∈ pcT (tops (rem u v) v e.1 e.2) e.1 e.2, ((allP v told).findIdx fun e => decide (e.1 = a.2.1)) = G.length := fun a ha => fi _ e a hi (mem _ e hi a ha).2
        have tl : (tops (rem u v) v e.1 e.2).length = e.2 := tpG_len _ _ _
        have e1 : pcT (tops (rem u v) v e.1 e.2) e.1 e.2 = pcR2 e.1 0 (tops (rem u v) v e.1 e.2) := by rw [← pcT_eq, tl]
        rw [List.flatMap_cons, List.pairwise_append]
        refine ⟨⟨?_, i1, fun a ha c hc => ?_⟩, fun a ha => ?_⟩
        · have o := pcR2_ord (part := e.1) (tops (rem u v) v e.1 e.2) 0
          rw [← e1] at o
          refine o.imp_of_mem fun ha hc hlt => ?_
          rw [ixe _ ha, ixe _ hc]
          exact lt_cons_self _ (lt_cons_head _ _ (by omega))
        · have := i2 c hc
          rw [List.length_append] at this
          have : G.length + 1 ≤ _ := this
          rw [ixe _ ha]
          exact lt_cons_head _ _ (by omega)
        · rcases List.mem_append.mp ha with ha | ha
          · rw [ixe _ ha]; exact Nat.le_refl _
          · have := i2 a ha
            rw [List.length_append] at this
            omega
    exact (key _ [] rfl).1
theorem pwL_deg14 (x : Int) (fs : List (List Rat)) (hf : ∀ f ∈ fs, Fac f) (h4 : fs.length ≤ 4) : zdeg (fs.zip (pwL x fs)) ≤ 14 := by
  have low : ∀ k, k + 1 ≤ fs.length → -3 * (k : Int) ≤ (pwA (stream x (fs.length + 1)) fs (k + 1)).2 := fun k => by
    induction k with
    | zero =>
      intro hk
      obtain ⟨f, hfk⟩ : ∃ f, fs[0]? = some f := ⟨_, List.getElem?_eq_getElem (by omega)⟩
      have F := hf f (List.mem_of_getElem? hfk)
      have f2 := F.l2
      have f4 := F.l4
      have hg : fs.getD 0 [] = f := by rw [List.getD_eq_getElem?_getD, hfk]; rfl
      have hr := pwR_le (stream x (fs.length + 1)) fs
      show -3 * ((0 : Nat) : Int) ≤ pwR (stream x (fs.length + 1)) fs - (((fs.getD 0 []).length - 1 : Nat) : Int) * pwI (stream x (fs.length + 1)) (pwR (stream x (fs.length + 1)) fs) 0 ((fs.getD 0 []).length - 1)
      rw [hg]
      have h1 : pwI (stream x (fs.length + 1)) (pwR (stream x (fs.length + 1)) fs) 0 (f.length - 1) ≤ max 1 (pwR (stream x (fs.length + 1)) fs / ((f.length - 1 : Nat) : Int)) := by unfold pwI; omega
      have h2 : 1 ≤ pwR (stream x (fs.length + 1)) fs / ((f.length - 1 : Nat) : Int) := by
        rw [Int.le_ediv_iff_mul_le (by omega)]
        omega
      have h3 : pwI (stream x (fs.length + 1)) (pwR (stream x (fs.length + 1)) fs) 0 (f.length - 1) ≤ pwR (stream x (fs.length + 1)) fs / ((f.length - 1 : Nat) : Int) := by omega
      have h4 := Int.mul_le_mul_of_nonneg_left h3 (show (0 : Int) ≤ ((f.length - 1 : Nat) : Int) by omega)
      have h5 := Int.mul_ediv_self_le (x := pwR (stream x (fs.length + 1)) fs) (k := ((f.length - 1 : Nat) : Int)) (by omega)
      omega
    | succ k ih =>
      intro hk
      obtain ⟨f, hfk⟩ : ∃ f, fs[k + 1]? = some f := ⟨_, List.getElem?_eq_getElem (by omega)⟩
      have F := hf f (List.mem_of_getElem? hfk)
      have f2 := F.l2
      have f4 := F.l4
      have hg : fs.getD (k + 1) [] = f := by rw [List.getD_eq_getElem?_getD, hfk]; rfl
      have hr := ih (by omega)
      show -3 * ((k + 1 : Nat) : Int) ≤ (pwA (stream x (fs.length + 1)) fs (k + 1)).2 - (((fs.getD (k + 1) []).length - 1 : Nat) : Int) * pwI (stream x (fs.length + 1)) (pwA (stream x (fs.length + 1)) fs (k + 1)).2 (k + 1) ((fs.getD (k + 1) []).length - 1)
      rw [hg]
      generalize (pwA (stream x (fs.length + 1)) fs (k + 1)).2 = room at hr ⊢
      have h1 : pwI (stream x (fs.length + 1)) room (k + 1) (f.length - 1) ≤ max 1 (room / ((f.length - 1 : Nat) : Int)) := by unfold pwI; omega
      rcases Int.le_total 1 (room / ((f.length - 1 : Nat) : Int)) with h | h
      · have h2 : pwI (stream x (fs.length + 1)) room (k + 1) (f.length - 1) ≤ room / ((f.length - 1 : Nat) : Int) := by omega
        have h3 := Int.mul_le_mul_of_nonneg_left h2 (show (0 : Int) ≤ ((f.length - 1 : Nat) : Int) by omega)
        have h4 := Int.mul_ediv_self_le (x := room) (k := ((f.length - 1 : Nat) : Int)) (by omega)
        omega
      · have h2 : pwI (stream x (fs.length + 1)) room (k + 1) (f.length - 1) ≤ 1 := by omega
        have h3 := Int.mul_le_mul_of_nonneg_left h2 (show (0 : Int) ≤ ((f.length - 1 : Nat) : Int) by omega)
        omega
  obtain ⟨l, d, r, u, p⟩ := pwA_facts (stream x (fs.length + 1)) fs hf _ (Nat.le_refl _)
  have e : pwL x fs = (pwA (stream x (fs.length + 1)) fs fs.length).1 := rfl
  rw [e]
  rcases Nat.eq_zero_or_pos fs.length with z | z
  · have : fs = [] := List.length_eq_zero_iff.mp z
    rw [this]
    exact Nat.zero_le _
  · have lo := low (fs.length - 1) (by omega)
    rw [show fs.length - 1 + 1 = fs.length by omega] at lo
    have hr : pwR (stream x (fs.length + 1)) fs ≤ 10 ∧ (fs.length ≠ 1 → pwR (stream x (fs.length + 1)) fs = 5) := by
      refine ⟨(pwR_le _ fs).2, fun hne => ?_⟩
      unfold pwR
      rw [if_neg fun z => hne z.2.1]
    rcases Classical.em (fs.length = 1) with h1 | h1
    · omega
    · have := hr.2 h1
      omega
end DL

set_option linter.all false
set_option autoImplicit false
namespace DL
/-! ### what stands over the parts is one thing alone -/
theorem ovP_uniq {top high rest left : List Rat} (ht : IsRow top) (hh : Mon high) (hr : IsRow rest) (g : gcd rest high = [1]) (rl : IsRow left) (ll : left.length < high.length) (h : Dvd high (trim (addL (mulL left rest) (sclL (-1) top)))) : ovP top high rest = left := by
  obtain ⟨o1, o2, o3⟩ := ovP_facts ht hh hr g
  obtain ⟨s, t, _, _, hb⟩ := bez_one hr hh.row g
  obtain ⟨u, hu⟩ := o3
  obtain ⟨v, hv⟩ := h
  have d : Dvd high (trim (addL (ovP top high rest) (sclL (-1) left))) := by
    refine ⟨addL (mulL s (addL u (sclL (-1) v))) (mulL t (addL (ovP top high rest) (sclL (-1) left))), fun x => ?_⟩
    have h1 := hu x
    have h2 := hv x
    have h3 := hb x
    rw [ev_trim, ev_add, ev_scl, ev_mul] at h1 h2
    rw [ev_trim, ev_add, ev_scl, ev_add, ev_mul, ev_mul, ev_add, ev_add, ev_scl, ev_scl]
    have e : ev (ovP top high rest) x + ev left x * -1 = (ev (ovP top high rest) x + ev left x * -1) * (ev s x * ev rest x + ev t x * ev high x) := by rw [h3]; grind
    rw [e]
    grind
  have z := dvd_short hh.row hh.ne (row_trim _) d (by
    refine Nat.lt_of_le_of_lt (trim_len _) ?_
    rw [addL_len, sclL_len]
    omega)
  refine row_ext o1 rl fun x => ?_
  have := (row_eq_nil_iff (row_trim _)).mp z x
  rw [ev_trim, ev_add, ev_scl] at this
  grind
theorem psum_len {part : List Rat} (mp : Mon part) : ∀ ts : List (List Rat), (∀ t ∈ ts, t.length < part.length) → (psum part ts).length ≤ (part.length - 1) * ts.length
  | [], _ => Nat.zero_le _
  | t :: ts, h => by
    have h1 := psum_len mp ts fun c hc => h c (List.mem_cons_of_mem _ hc)
    have h2 := h t (List.mem_cons_self ..)
    have mw := powR_mon mp ts.length
    have h3 := mulL_len1 t (powR part ts.length) mw.ne
    have h4 := powR_len part ts.length mp.pos
    have h5 := mw.pos
    show (addL _ _).length ≤ _
    rw [addL_len, List.length_cons, Nat.mul_succ]
    omega
theorem tpG_uniq {part : List Rat} (mp : Mon part) : ∀ (ts : List (List Rat)) (left : List Rat), (∀ t ∈ ts, IsRow t ∧ t.length < part.length) → IsRow left → (∀ x, ev left x = ev (psum part ts) x) → tpG part ts.length left = ts := fun ts => by
  suffices z : ∀ (n : Nat) (ts : List (List Rat)) (left : List Rat), ts.length = n → (∀ t ∈ ts, IsRow t ∧ t.length < part.length) → IsRow left → (∀ x, ev left x = ev (psum part ts) x) → tpG part n left = ts from fun left h1 h2 h3 => z ts.length ts left rfl h1 h2 h3
  intro n
  induction n with
  | zero => intro ts left hl _ _ _; rw [List.length_eq_zero_iff.mp hl]; rfl
  | succ n ih =>
    intro ts left hl h1 h2 h3
    rcases List.eq_nil_or_concat ts with z | ⟨ts', r, e⟩
    · rw [z] at hl; cases hl
    · rw [List.concat_eq_append] at e
      subst e
      rw [List.length_append] at hl
      have hr := h1 r (List.mem_append_right _ (List.mem_singleton.mpr rfl))
      have dv : Dv left part (trim (psum part ts')) r := ⟨row_trim _, hr.1, hr.2, fun x => by rw [h3, psum_snoc, ev_trim]⟩
      obtain ⟨e1, e2⟩ := dv.eqs h2 mp.row
      rw [tpG, ← e1, ← e2, ih ts' _ (by have : ts'.length + 1 = n + 1 := hl; omega) (fun t ht => h1 t (List.mem_append_left _ ht)) (row_trim _) fun x => ev_trim _ x]
theorem tops_uniq {v : List Rat} {told : List (List Rat)} {F : List (List Rat × Nat)} (h : AllF v told F) (mv : Mon v) {u w : List Rat} (ru : IsRow u) (rw_ : IsRow w) (T : List Rat × Nat → List (List Rat)) (hT : ∀ e ∈ F, (T e).length = e.2 ∧ ∀ t ∈ T e, IsRow t ∧ t.length < e.1.length)
    (hu : ∀ x, ev u x = ev w x * ev v x + ev (sR (F.map fun e => mulL (psum e.1 (T e)) (quo v (powR e.1 e.2)))) x) :
    quo u v = w ∧ ∀ e ∈ F, tpG e.1 e.2 (ovP (rem u v) (powR e.1 e.2) (quo v (powR e.1 e.2))) = T e := by
  have plen : ∀ e ∈ F, (psum e.1 (T e)).length < (powR e.1 e.2).length := fun e he => by
    have me := h.mon e he
    have h1 := psum_len me (T e) fun t ht => ((hT e he).2 t ht).2
    have h2 : ∀ n, (powR e.1 n).length = (e.1.length - 1) * n + 1 := fun n => by
      induction n with
      | zero => rfl
      | succ n ih =>
        have h := mul_row_len (powR_mon me n).row me.row (powR_mon me n).ne me.ne
        have := me.pos
        show (trim _).length = _
        rw [Nat.mul_succ]
        omega
    rw [(hT e he).1] at h1
    rw [h2]
    omega
  have slen : (sR (F.map fun e => mulL (psum e.1 (T e)) (quo v (powR e.1 e.2)))).length ≤ v.length - 1 := sR_len _ fun a ha => by
    obtain ⟨e, he, rfl⟩ := List.mem_map.mp ha
    obtain ⟨mq, _, _, lq⟩ := h.rest_one mv he
    have := mulL_len1 (psum e.1 (T e)) (quo v (powR e.1 e.2)) mq.ne
    have := plen e he
    omega
  have vp1 := mv.pos
  have dv : Dv u v w (trim (sR (F.map fun e => mulL (psum e.1 (T e)) (quo v (powR e.1 e.2))))) := ⟨rw_, row_trim _, Nat.lt_of_le_of_lt (trim_len _) (by omega), fun x => by rw [ev_trim]; exact hu x⟩
  obtain ⟨e1, e2⟩ := dv.eqs ru mv.row
  refine ⟨e1.symm, fun e he => ?_⟩
  have me := h.mon e he
  have mw := powR_mon me e.2
  obtain ⟨mq, g, _, _⟩ := h.rest_one mv he
  rw [← e2]
  have ov : ovP (trim (sR (F.map fun e => mulL (psum e.1 (T e)) (quo v (powR e.1 e.2))))) (powR e.1 e.2) (quo v (powR e.1 e.2)) = trim (psum e.1 (T e)) := by
    refine ovP_uniq (row_trim _) mw mq.row g (row_trim _) (Nat.lt_of_le_of_lt (trim_len _) (plen e he)) ?_
    obtain ⟨i, hi⟩ := List.getElem?_of_mem he
    have hlt : i < F.length := (List.getElem?_eq_some_iff.mp hi).1
    have hsplit : F = F.take i ++ e :: F.drop (i + 1) := by
      have h1 : F.drop i = e :: F.drop (i + 1) := by
        rw [List.drop_eq_getElem_cons hlt, (List.getElem?_eq_some_iff.mp hi).2]
      rw [← h1, List.take_append_drop]
    have oth : ∀ c, c ∈ F.take i ∨ c ∈ F.drop (i + 1) → Dvd (powR e.1 e.2) (quo v (powR c.1 c.2)) := fun c hc => by
      rcases hc with hc | hc
      · obtain ⟨j, hj⟩ := List.getElem?_of_mem hc
        have hj1 := (List.getElem?_eq_some_iff.mp hj).1
        rw [List.length_take] at hj1
        have hj2 : F[j]? = some c := by
          rw [List.getElem?_take] at hj
          split at hj
          · exact hj
          · cases hj
        exact h.other mv.row mv.ne hi hj2 (by omega)
      · obtain ⟨j, hj⟩ := List.getElem?_of_mem hc
        rw [List.getElem?_drop] at hj
        exact h.other mv.row mv.ne hi hj (by omega)
    have mulD : ∀ (a b : List Rat), Dvd (powR e.1 e.2) b → Dvd (powR e.1 e.2) (mulL a b) := fun a b hb => by
      obtain ⟨u, hu⟩ := hb
      exact ⟨mulL a u, fun x => by rw [ev_mul, hu, ev_mul]; grind⟩
    obtain ⟨u1, h1⟩ := sR_dvd (g := powR e.1 e.2) ((F.take i).map fun e => mulL (psum e.1 (T e)) (quo v (powR e.1 e.2))) fun a ha => by
      obtain ⟨c, hc, rfl⟩ := List.mem_map.mp ha
      exact mulD _ _ (oth c (.inl hc))
    obtain ⟨u2, h2⟩ := sR_dvd (g := powR e.1 e.2) ((F.drop (i + 1)).map fun e => mulL (psum e.1 (T e)) (quo v (powR e.1 e.2))) fun a ha => by
      obtain ⟨c, hc, rfl⟩ := List.mem_map.mp ha
      exact mulD _ _ (oth c (.inr hc))
    refine ⟨sclL (-1) (addL u1 u2), fun x => ?_⟩
    have e3 : ev (sR (F.map fun e => mulL (psum e.1 (T e)) (quo v (powR e.1 e.2)))) x = ev (sR ((F.take i).map fun e => mulL (psum e.1 (T e)) (quo v (powR e.1 e.2)))) x + (ev (mulL (psum e.1 (T e)) (quo v (powR e.1 e.2))) x + ev (sR ((F.drop (i + 1)).map fun e => mulL (psum e.1 (T e)) (quo v (powR e.1 e.2)))) x) := by
      have : F.map (fun e => mulL (psum e.1 (T e)) (quo v (powR e.1 e.2))) = (F.take i).map (fun e => mulL (psum e.1 (T e)) (quo v (powR e.1 e.2))) ++ ([mulL (psum e.1 (T e)) (quo v (powR e.1 e.2))] ++ (F.drop (i + 1)).map fun e => mulL (psum e.1 (T e)) (quo v (powR e.1 e.2))) := by
        conv => lhs; rw [hsplit]
        rw [List.map_append, List.map_cons]
        rfl
      rw [this, sR_app, sR_app]
      congr 1
      congr 1
      show ev (addL _ []) x = _
      rw [ev_add, ev_nil]; grind
    rw [ev_trim, ev_add, ev_scl, ev_mul, ev_trim, ev_trim, e3, h1, h2, ev_scl, ev_add, ev_mul]
    grind
  rw [ov, ← (hT e he).1]
  exact tpG_uniq me (T e) _ (hT e he).2 (row_trim _) fun x => ev_trim _ x
/-! ### the parts of a product of rows that share nothing, by these rows -/
theorem ws_zero {f : List Rat} (hf : Irr f) : ∀ Z : List (List Rat × Nat), (∀ e ∈ Z, Irr e.1) → (∀ e ∈ Z, e.1 ≠ f) → ws f Z = 0
  | [], _, _ => rfl
  | a :: Z, h, hn => by
    have c2 : ws f (a :: Z) = a.2 * vp f a.1 + ws f Z := rfl
    rw [c2, ws_zero hf Z (fun e he => h e (List.mem_cons_of_mem _ he)) (fun e he => hn e (List.mem_cons_of_mem _ he)), vp_other hf (h a (List.mem_cons_self ..)) fun z => hn a (List.mem_cons_self ..) z.symm]
    rfl
theorem ws_eq {f : List Rat} {k : Nat} (hf : Irr f) : ∀ Z : List (List Rat × Nat), (∀ e ∈ Z, Irr e.1) → (Z.Pairwise fun a c => a.1 ≠ c.1) → (f, k) ∈ Z → ws f Z = k
  | [], _, _, h => nomatch h
  | a :: Z, h, hp, hm => by
    obtain ⟨p1, p2⟩ := List.pairwise_cons.mp hp
    have c2 : ws f (a :: Z) = a.2 * vp f a.1 + ws f Z := rfl
    have hZ : ∀ e ∈ Z, Irr e.1 := fun e he => h e (List.mem_cons_of_mem _ he)
    rw [c2]
    rcases List.mem_cons.mp hm with rfl | hm
    · rw [ws_zero hf Z hZ fun e he z => p1 e he z.symm, vp_self hf]
      omega
    · have : a.1 ≠ f := p1 _ hm
      rw [ws_eq hf Z hZ p2 hm, vp_other hf (h a (List.mem_cons_self ..)) fun z => this z.symm]
      omega
theorem ws_only {v : List Rat} {told : List (List Rat)} {F : List (List Rat × Nat)} (h : AllF v told F) {p : List Rat} (ip : Irr p) {e : List Rat × Nat} (he : e ∈ F) (h1 : 1 ≤ vp p e.1) : ws p F = e.2 * vp p e.1 := by
  have hv := h.v p ip
  obtain ⟨A, B, rfl⟩ := List.append_of_mem he
  have e1 : vs p (A ++ e :: B) = vs p A + (vp p e.1 + vs p B) := by rw [vs_app]; rfl
  have e2 : ws p (A ++ e :: B) = ws p A + (e.2 * vp p e.1 + ws p B) := by rw [ws_app]; rfl
  have z : ∀ L : List (List Rat × Nat), vs p L = 0 → ws p L = 0 := fun L => by
    induction L with
    | nil => intro _; rfl
    | cons a L ih =>
      intro hz
      have c1 : vs p (a :: L) = vp p a.1 + vs p L := rfl
      have c2 : ws p (a :: L) = a.2 * vp p a.1 + ws p L := rfl
      rw [c1] at hz
      rw [c2, ih (by omega), show vp p a.1 = 0 by omega]
      rfl
  rw [e2, z A (by omega), z B (by omega)]
  omega
/-- the parts are the rows themselves, with their powers -/
theorem allP_rows {fs : List (List Rat)} {Z : List (List Rat × Nat)} (hi : ∀ e ∈ Z, Irr e.1) (hk : ∀ e ∈ Z, 1 ≤ e.2) (hd : Z.Pairwise fun a c => a.1 ≠ c.1) (hfs : ∀ e ∈ Z, e.1 ∈ fs) (hr : ∀ f ∈ fs, IsRow f) {F : List (List Rat × Nat)} (h : AllF (PR Z) fs F) : ∀ e, e ∈ F ↔ e ∈ Z := by
  have mZ : ∀ e ∈ Z, Mon e.1 := fun e he => (hi e he).m
  have mb : Mon (PR Z) := PR_mon mZ
  have one : ∀ e ∈ F, ∀ c ∈ Z, 1 ≤ vp c.1 e.1 → e = c := fun e he c hc h1 => by
    have ic := hi c hc
    have S := h.sq e he
    have dc := (vp_pos ic S.m.row S.m.ne).mp h1
    have e1 : e.1 = c.1 := by
      rcases h.td e he c.1 (hfs c hc) with d | ⟨g, _⟩
      · rcases ic.p e.1 S.m d with z | z
        · have := S.l
          rw [z] at this
          exact absurd this (by decide)
        · exact z
      · exfalso
        have F2 := shT_facts S.m.row ic.m.row
        have : Dvd c.1 [1] := by
          have e1 : (shT e.1 c.1).1 = [1] := g
          rw [← e1]
          exact dvd_comb dc (.refl _) F2.eq
        have := (this.len ic.m.row row_one1 (by decide)).2
        have l := ic.l
        have : c.1.length ≤ 1 := this
        omega
    have w1 := ws_only h ic he h1
    have w2 := h.w c.1 ic
    rw [vp_PR ic mZ, ws_eq ic Z hi hd hc] at w2
    rw [w2, e1, vp_self ic] at w1
    exact Prod.ext e1 (by omega)
  intro e
  constructor
  · intro he
    have S := h.sq e he
    obtain ⟨p, ip, dp⟩ := irr_ex e.1.length e.1 (Nat.le_refl _) S.m.row S.l
    have v1 := (vp_pos ip S.m.row S.m.ne).mpr dp
    have v2 := vp_dvd ip S.m.row mb.row mb.ne (h.dv e he)
    rw [vp_PR ip mZ] at v2
    rcases Classical.em (∃ c ∈ Z, c.1 = p) with ⟨c, hc, hcp⟩ | hno
    · rw [one e he c hc (by rw [hcp]; exact v1)]
      exact hc
    · have := ws_zero ip Z hi fun c hc z => hno ⟨c, hc, z⟩
      omega
  · intro hc
    have ic := hi e hc
    have w2 := h.w e.1 ic
    have k1 := hk e hc
    rw [vp_PR ic mZ, ws_eq (k := e.2) ic Z hi hd hc] at w2
    rcases ws_one_of F (h.v e.1 ic) with z | ⟨c, hcF, z⟩
    · omega
    · have : 1 ≤ vp e.1 c.1 := by
        rcases Nat.eq_zero_or_pos (vp e.1 c.1) with y | y
        · rw [y] at z; omega
        · exact y
      rw [← one c hcF e hc this]
      exact hcF
open Classical in
theorem sg_lt : ∀ (fs : List (List Rat)) (i j : Nat) (a c : List Rat), (∀ f ∈ fs, Irr f) → Irr a → Irr c → (fs.Pairwise fun a c => a ≠ c) → fs[i]? = some a → fs[j]? = some c → i < j → sgL fs a < sgL fs c
  | [], i, j, a, c, _, _, _, _, h, _, _ => by cases h
  | r :: fs, i, j, a, c, hi, ia, ic, hd, ha, hc, hlt => by
    obtain ⟨d1, d2⟩ := List.pairwise_cons.mp hd
    have dv : ∀ {a c : List Rat}, Irr a → Irr c → a ≠ c → ¬ Dvd a c := fun {a c} ia ic hne hdv => by
      rcases ic.p a ia.m hdv with z | z
      · have := ia.l; rw [z] at this; exact absurd this (by decide)
      · exact hne z
    cases j with
    | zero => exact absurd hlt (Nat.not_lt_zero _)
    | succ j =>
      have hc2 : fs[j]? = some c := hc
      have nc : ¬ Dvd c r := dv ic (hi r (List.mem_cons_self ..)) fun z => d1 c (List.mem_of_getElem? hc2) z.symm
      cases i with
      | zero =>
        have e : some r = some a := ha
        have e := Option.some.inj e
        show (if Dvd a r then (0 : Int) else 1) :: sgL fs a < (if Dvd c r then (0 : Int) else 1) :: sgL fs c
        rw [if_neg nc, if_pos (by rw [e]; exact .refl _)]
        exact lt_cons_head _ _ (by decide)
      | succ i =>
        have ha2 : fs[i]? = some a := ha
        have na : ¬ Dvd a r := dv ia (hi r (List.mem_cons_self ..)) fun z => d1 a (List.mem_of_getElem? ha2) z.symm
        show (if Dvd a r then (0 : Int) else 1) :: sgL fs a < (if Dvd c r then (0 : Int) else 1) :: sgL fs c
        rw [if_neg nc, if_neg na]
        exact lt_cons_self _ (sg_lt fs i j a c (fun f hf => hi f (List.mem_cons_of_mem _ hf)) ia ic d2 ha2 hc2 (by omega))
end DL

set_option linter.all false
set_option autoImplicit false
set_option maxRecDepth 10000
namespace DL
open PySem PySem.Spec L2
/-! ### sorted, of data that are alike -/
def rSortedD (K : PySem.W.Frag) : List V → Hp → VK → Prop := fun vs H Q => ∃ (a : Addr) (bs : List (V × D)), vs = [V.ref a] ∧ SqL K H a (bs.map (·.1)) ∧ (∀ b ∈ bs, Dp K H b.1 b.2) ∧ PySem.W.AllAlike (bs.map (·.2)) ∧ PySem.W.Sortable (bs.map (·.2)) ∧ (∀ b ∈ bs, b.2.depth ≤ 60) ∧
  ∀ p, H p = none → Q (.ref p) (upd H p (.lst ((bs.mergeSort (PySem.W.dataLe false (·.2))).map (·.1))))
theorem each_of_vals {R : Value → V × D → Prop} : ∀ (bs : List (V × D)) (its : List Value), Vals (bs.map (·.1)) its → (∀ b ∈ bs, ∀ v, RelV b.1 v → R v b) → PySem.W.EachIs R its bs
  | [], its, h, _ => by cases h; exact .nil
  | b :: bs, its, h, hR => by
    cases h with
    | cons h1 h2 => exact .cons (hR b (List.mem_cons_self ..) _ h1) (each_of_vals bs _ h2 fun c hc => hR c (List.mem_cons_of_mem _ hc))
theorem vals_of_each : ∀ {out : List Value} {bs : List (V × D)}, PySem.W.EachIs (fun v (b : V × D) => RelV b.1 v) out bs → Vals (bs.map (·.1)) out
  | _, _, .nil => .nil
  | _, _, .cons h t => .cons h (vals_of_each t)
theorem cr_sortedD {X : Cx} (hu : X.A.units + 100 < cLine) : CallR X (.builtin "sorted") (rSortedD X.K) := by
  intro pins s σ H vs us Q I r h
  obtain ⟨a, bs, rfl, hs, hd, hal, hk, hdep, q⟩ := h
  obtain ⟨its, rv, hl, hz⟩ := I.list hs
  rw [Vals.ref1 r]
  rw [List.length_map] at hz
  refine PySem.W.sorted_data (enc := (·.2)) (R := fun v b => RelV b.1 v) hl.isList (each_of_vals bs its rv fun b _ v hv => hv) (each_of_vals bs its rv fun b hb v hv => Dp.reads I b.2 b.1 v (hd b hb) hv) hal hk hz (fun b hb => by have := hdep b hb; omega) fun out ho eo => ?_
  obtain ⟨ep, he'⟩ := PyProof.Rows.sortedAll_at s.heap its (List.toArray out)
  have hlen : ((bs.mergeSort (PySem.W.dataLe false (·.2))).map (·.1)).length ≤ sizeLine := by rw [List.length_map, List.length_mergeSort]; exact hz
  exact ⟨.ref _, upd H (s.heap.objs.size + 1) (.lst ((bs.mergeSort (PySem.W.dataLe false (·.2))).map (·.1))), I.laid (t' := s.toks) (fun _ _ => PyProof.Rows.sortedAll_old) (Nat.le_succ _) ⟨hlen, out, ep, vals_of_each eo, he'⟩, rfl, q _ (I.hok.fresh (Nat.le_succ _))⟩
def cSorted : DC := fun ds P => match ds with
  | [.list xs] => (PySem.W.AllAlike xs ∧ PySem.W.Sortable xs ∧ ∀ x ∈ xs, x.depth ≤ 60) ∧ P (.list (xs.mergeSort (PySem.W.dataLe false id)))
  | _ => False
theorem rp_zip {K : PySem.W.Frag} {H : Hp} : ∀ {vs : List V} {xs : List D}, RpAll K H vs xs → (vs.zip xs).map (·.1) = vs ∧ (vs.zip xs).map (·.2) = xs ∧ ∀ b ∈ vs.zip xs, Rp K H b.1 b.2
  | _, _, .nil => ⟨rfl, rfl, fun b hb => nomatch hb⟩
  | v :: vs, x :: xs, .cons h t => by
    obtain ⟨h1, h2, h3⟩ := rp_zip t
    refine ⟨by rw [List.zip_cons_cons, List.map_cons, h1], by rw [List.zip_cons_cons, List.map_cons, h2], fun b hb => ?_⟩
    rw [List.zip_cons_cons] at hb
    rcases List.mem_cons.mp hb with rfl | hb
    · exact h
    · exact h3 b hb
theorem rp_unzip {K : PySem.W.Frag} {H : Hp} : ∀ (bs : List (V × D)), (∀ b ∈ bs, Rp K H b.1 b.2) → RpAll K H (bs.map (·.1)) (bs.map (·.2))
  | [], _ => .nil
  | b :: bs, h => .cons (h b (List.mem_cons_self ..)) (rp_unzip bs fun c hc => h c (List.mem_cons_of_mem _ hc))
variable {B : Bd}
theorem snd_sorted : SndC B (rSortedD B.K) cSorted := fun Γ ad σ H xs ds P Q C r h k => by
  unfold cSorted at h
  split at h
  · rename_i xs
    obtain ⟨⟨h1, h2, h3⟩, h4⟩ := h
    cases r with
    | cons r1 r2 =>
      cases r2
      cases r1 with
      | lst hx ax =>
        rename_i a vs
        obtain ⟨z1, z2, z3⟩ := rp_zip ax
        refine ⟨a, List.zip vs xs, rfl, by rw [z1]; exact SqL.of (msk_le _ _ hx), fun b hb => ((z3 b hb).mono msk_le).dp, by rw [z2]; exact h1, by rw [z2]; exact h2, fun b hb => h3 b.2 (by rw [← z2]; exact List.mem_map_of_mem hb), fun p hp => ?_⟩
        have e : ((vs.zip xs).mergeSort (PySem.W.dataLe false (·.2))).map (·.2) = xs.mergeSort (PySem.W.dataLe false id) := by
          have h := List.map_mergeSort (r := PySem.W.dataLe false (fun b : V × D => b.2)) (s := PySem.W.dataLe false id) (f := fun b : V × D => b.2) (l := vs.zip xs) (fun _ _ _ _ => rfl)
          rw [z2] at h
          exact h
        refine k _ _ _ (upd_grow hp) (C.rp_lst hp ?_) h4
        rw [← e]
        exact rp_unzip _ fun b hb => z3 b (List.mem_mergeSort.mp hb)
  · exact h.elim
theorem ee_sorted {e : Expr} {es : List Expr} {wa : DL_} {p pos : Pos} (hm : B.mg "sorted" = none) (ha : EA B (e :: es) wa) (hg : ∀ j, Gl (B.X j) "sorted" := by intro _; rfl) (he : ∀ j, starEach (e :: es) (B.X j).env = (false, eval e (B.X j).env) :: starEach es (B.X j).env := by intro _; rfl) (hpl : ∀ j, (backTo pos (starEach es (B.X j).env)).any (·.1) = false := by intro _; rfl) :
    EE B (.Call (.Name "sorted" p) (e :: es) [] pos) (eCB cSorted wa) := ee_cb (i := "sorted") (r := rSortedD B.K) (fun j => by have q := B.hK j; rw [← q]; exact cr_sortedD (by have := (B.hr j).un; omega)) snd_sorted ha hm (by decide +kernel) hg (by decide) (by decide) he hpl
theorem lenT4 {i j k l : Nat} (ds : List D) (Γ : Ct) (P : Ct → Prop) (h : dCons (dName i) (dCons (dName j) (dCons (dName k) (dCons (dName l) dNil))) ds Γ P) : ds.length = 4 := by
  rcases ds with _ | ⟨_, _ | ⟨_, _ | ⟨_, _ | ⟨_, _ | ⟨_, _⟩⟩⟩⟩⟩
  · exact h.elim
  · exact h.elim
  · exact h.elim
  · exact h.elim
  · rfl
  · exact h.elim
end DL

set_option linter.all false
set_option autoImplicit false
set_option maxRecDepth 10000
set_option maxHeartbeats 400000
namespace DL
open PySem PySem.Spec L2
local macro_rules | `(tactic| walk_at "dl") => `(tactic| simp -implicitDefEqProofs only [wSeq, wNext, wSet, wSetL, wAsg, wPar, parD, wRet, wExpr, wApp, wSetIx, wIf, wFrz, wRaise, wBreak, wCont, eVar, eC, eOp, tBl, dI, dB, dAdd, dSub, dMul, dFdiv, dMod, dPow, eNeg, dLt, dLe, dGt, dGe, dEq, dNe, dIs, dIsNot, eAnd, eOr, eNot, tAndD, tOrD, tNotD,
  aNil, aCons, eTup, eLst, lLst, eL, dIx, eSl, dSl, oNo, oSome, eCB, cLen, cAbs, cMax, cMin, cTuple, cList, cInt, eIsi, isiD, dName, dTupT, dCons, dNil, eCell, cellP, eIxO, eLenO, eCall, startΓ, startS, List.getElem?_cons_zero, List.getElem?_cons_succ, List.set, List.map, List.length, List.replicate, List.append, List.cons_append, List.nil_append, Nat.sub_self, Nat.reduceAdd, Nat.reduceSub, true_and, ixD_0, ixD_1, ixD_2, ixD_3, ixD_4, ixD_5, ixD_6, ixD_7, ixD_8, ixD_9, ixD_10, ixD_11, ixD_12, ixD_13, ixD_14, ixD_15, ixD_16, ixD_17, ixD_18, ixD_19])
/-! ### law k11: what is put together and taken apart -/
theorem facA_inj {xs : List Int} {i j : Nat} (h : facA xs i = facA xs j) : i = j := by
  unfold facA at h
  have h2 := Int.emod_nonneg (xs.getD 1 0) (show (5 : Int) ≠ 0 by decide)
  have h4 := Int.emod_nonneg (xs.getD 2 0) (show (3 : Int) ≠ 0 by decide)
  generalize xs.getD 0 0 % 25 = u at h
  generalize xs.getD 1 0 % 5 = v at h2 h
  generalize xs.getD 2 0 % 3 = w at h4 h
  obtain ⟨L, hL⟩ := Int.eq_ofNat_of_zero_le (show (0 : Int) ≤ 1 + w by omega)
  rw [hL] at h
  have e1 := divInt_mul_den (u - 12 + (1 + v) * (i : Int) * (L : Int)) L (by omega)
  have e2 := divInt_mul_den (u - 12 + (1 + v) * (j : Int) * (L : Int)) L (by omega)
  rw [h, e2] at e1
  have e3 := Rat.intCast_inj.mp e1
  have e4 : (1 + v) * (j : Int) * (L : Int) = (1 + v) * (i : Int) * (L : Int) := by omega
  have e5 := Int.eq_of_mul_eq_mul_right (show (L : Int) ≠ 0 by omega) e4
  have e6 := Int.eq_of_mul_eq_mul_left (show (1 + v) ≠ 0 by omega) e5
  omega
theorem facR_inj {xs : List Int} {i j : Nat} (h : facR xs i = facR xs j) : i = j := by
  refine facA_inj (xs := xs) ?_
  have two : ∀ a b : Rat, 2 * a = 2 * b → a = b := fun a b h => by grind
  have three : ∀ a b : Rat, 3 * a = 3 * b → a = b := fun a b h => by grind
  have form : ∀ k, (∃ c, facR xs k = [c, 2 * facA xs k, 1]) ∨ (∃ c d, facR xs k = [c, d, 3 * facA xs k, 1]) ∨ facR xs k = [facA xs k, 1] := fun k => by
    unfold facR
    split
    · exact .inl ⟨_, rfl⟩
    · split
      · exact .inr (.inl ⟨_, _, rfl⟩)
      · exact .inr (.inr rfl)
  rcases form i with ⟨c, e1⟩ | ⟨c, d, e1⟩ | e1 <;> rcases form j with ⟨c', e2⟩ | ⟨c', d', e2⟩ | e2 <;> rw [e1, e2] at h
  · injection h with _ h; injection h with h _; exact two _ _ h
  · simp at h
  · simp at h
  · simp at h
  · injection h with _ h; injection h with _ h; injection h with h _; exact three _ _ h
  · simp at h
  · simp at h
  · simp at h
  · injection h
theorem facL_dist (x : Int) (m : Nat) : (facL x m).Pairwise fun a c => a ≠ c := by
  unfold facL
  rw [List.pairwise_map]
  refine List.pairwise_iff_getElem.mpr fun i j hi hj hlt h => ?_
  rw [List.getElem_range, List.getElem_range] at h
  have := facR_inj h
  omega
def topB (x : Int) (f : List Rat) (k : Nat) : List Rat := if (stream (x + 31 * (k : Int)) 2).getD 1 0 % 4 = 0 then [] else rowBy ((stream (x + 31 * (k : Int)) 2).getD 0 0) (f.length - 1)
def topR (x : Int) (f : List Rat) (p k : Nat) : List Rat := if k + 1 = p ∧ topB x f k = [] then [((1 + (stream (x + 31 * (k : Int)) 2).getD 1 0 % 6 : Int) : Rat)] else topB x f k
theorem topB_facts (x : Int) {f : List Rat} (k : Nat) (l2 : 2 ≤ f.length) (l4 : f.length ≤ 4) : IsRow (topB x f k) ∧ (topB x f k).length < f.length ∧ Sr 61 (topB x f k) := by
  unfold topB
  generalize stream (x + 31 * (k : Int)) 2 = s
  have rb := rowBy_len (s.getD 0 0) (f.length - 1)
  have rs : Sr 61 (rowBy (s.getD 0 0) (f.length - 1)) := (sr_of (rowBy_az _ _)).up (by omega)
  split
  · exact ⟨row_nil, by show 0 < _; omega, .nil _ (by decide)⟩
  · exact ⟨rowBy_row _ _, by omega, rs⟩
def topsL (x : Int) (f : List Rat) (p : Nat) : List (List Rat) := (List.range p).map (topR x f p)
theorem topR_facts (x : Int) {f : List Rat} (p k : Nat) (l2 : 2 ≤ f.length) (l4 : f.length ≤ 4) : IsRow (topR x f p k) ∧ (topR x f p k).length < f.length ∧ Sr 61 (topR x f p k) ∧ (k + 1 = p → topR x f p k ≠ []) := by
  have h1 := Int.emod_nonneg ((stream (x + 31 * (k : Int)) 2).getD 1 0) (show (6 : Int) ≠ 0 by decide)
  have h2 := Int.emod_lt_of_pos ((stream (x + 31 * (k : Int)) 2).getD 1 0) (show (0 : Int) < 6 by decide)
  obtain ⟨b1, b2, b3⟩ := topB_facts x k l2 l4
  unfold topR
  generalize (stream (x + 31 * (k : Int)) 2).getD 1 0 % 6 = c at h1 h2 ⊢
  by_cases h : k + 1 = p ∧ topB x f k = []
  · rw [if_pos h]
    have hz : ((1 + c : Int) : Rat) ≠ 0 := fun z => by
      have := Rat.intCast_inj.mp (z.trans (show (0 : Rat) = ((0 : Int) : Rat) from rfl))
      omega
    have sc : Sz 4 ((1 + c : Int) : Rat) := sz_int (by omega) (by decide)
    exact ⟨row_snoc [] hz, by show 1 < _; omega, (sr_single sc 0).up (by decide), fun _ => by simp⟩
  · rw [if_neg h]
    exact ⟨b1, b2, b3, fun hk z => h ⟨hk, z⟩⟩
theorem topsL_len (x : Int) (f : List Rat) (p : Nat) : (topsL x f p).length = p := by unfold topsL; rw [List.length_map, List.length_range]
theorem topsL_mem (x : Int) {f : List Rat} (p : Nat) (l2 : 2 ≤ f.length) (l4 : f.length ≤ 4) : ∀ t ∈ topsL x f p, IsRow t ∧ t.length < f.length ∧ Sr 61 t := fun t ht => by
  unfold topsL at ht
  obtain ⟨k, _, rfl⟩ := List.mem_map.mp ht
  obtain ⟨a, b, c, _⟩ := topR_facts x p k l2 l4
  exact ⟨a, b, c⟩
theorem topsL_last (x : Int) {f : List Rat} {p : Nat} (hp : 1 ≤ p) (l2 : 2 ≤ f.length) (l4 : f.length ≤ 4) : ∃ ts t, topsL x f p = ts ++ [t] ∧ t ≠ [] := by
  obtain ⟨q, rfl⟩ : ∃ q, p = q + 1 := ⟨p - 1, by omega⟩
  unfold topsL
  rw [List.range_succ, List.map_append]
  exact ⟨_, _, rfl, (topR_facts x (q + 1) q l2 l4).2.2.2 rfl⟩
/-! sums in the order of the loops -/
noncomputable def offS (b f : List Rat) : Nat → List (List Rat) → List Rat
  | _, [] => []
  | k, t :: ts => addL (mulL t (quo b (powR f (k + 1)))) (offS b f (k + 1) ts)
theorem offS_snoc (b f t : List Rat) (x : Rat) : ∀ (ts : List (List Rat)) (k : Nat), ev (offS b f k (ts ++ [t])) x = ev (offS b f k ts) x + ev t x * ev (quo b (powR f (k + ts.length + 1))) x
  | [], k => by
    show ev (addL (mulL t (quo b (powR f (k + 1)))) []) x = ev [] x + _
    rw [ev_add, ev_mul, ev_nil]
    show _ = (0 : Rat) + ev t x * ev (quo b (powR f (k + 0 + 1))) x
    grind
  | a :: ts, k => by
    show ev (addL _ (offS b f (k + 1) (ts ++ [t]))) x = ev (addL _ _) x + _
    rw [ev_add, ev_add, offS_snoc b f t x ts (k + 1), List.length_cons, show k + 1 + ts.length + 1 = k + (ts.length + 1) + 1 by omega]
    grind
theorem offS_sum {v part : List Rat} {n : Nat} (mv : Mon v) (mp : Mon part) (hd : Dvd (powR part n) v) (x : Rat) : ∀ (ts : List (List Rat)) (k : Nat), k + ts.length = n → ev (offS v part k ts) x = ev (psum part ts) x * ev (quo v (powR part n)) x
  | [], k, _ => by show (0 : Rat) = 0 * _; rw [Rat.zero_mul]
  | t :: ts, k, hk => by
    rw [List.length_cons] at hk
    rw [offS, ev_add, ev_mul, offS_sum mv mp hd x ts (k + 1) (by omega), psum, ev_add, ev_mul, ev_powR]
    have q := quo_pow mv mp hd (j := k + 1) (by omega) x
    rw [show n - (k + 1) = ts.length by omega] at q
    rw [q]
    grind
abbrev K4 := Nat × Nat × Nat × List Rat
def enR (p k : Nat) : Nat → List (List Rat) → List K4
  | _, [] => []
  | o, t :: ts => (if 0 < t.length then [(p, k, o + 1, t)] else []) ++ enR p k (o + 1) ts
theorem enR_snoc (p k : Nat) (t : List Rat) : ∀ (ts : List (List Rat)) (o : Nat), enR p k o (ts ++ [t]) = enR p k o ts ++ (if 0 < t.length then [(p, k, o + ts.length + 1, t)] else [])
  | [], o => by
    show (if 0 < t.length then [(p, k, o + 1, t)] else []) ++ [] = [] ++ _
    rw [List.append_nil]
    rfl
  | a :: ts, o => by
    show (if 0 < a.length then _ else _) ++ enR p k (o + 1) (ts ++ [t]) = ((if 0 < a.length then _ else _) ++ enR p k (o + 1) ts) ++ _
    rw [enR_snoc p k t ts (o + 1), List.append_assoc, List.length_cons, show o + 1 + ts.length + 1 = o + (ts.length + 1) + 1 by omega]
theorem enR_pc (p k : Nat) (f : List Rat) : ∀ (ts : List (List Rat)) (o : Nat), (enR p k o ts).map (fun a => ((a.2.2.2, f, a.2.2.1) : Pc)) = pcR2 f o ts
  | [], o => rfl
  | t :: ts, o => by
    rw [enR, pcR2, List.map_append, enR_pc p k f ts (o + 1)]
    split <;> rfl
theorem enR_mem {p k : Nat} : ∀ (ts : List (List Rat)) (o : Nat) (a : K4), a ∈ enR p k o ts → a.1 = p ∧ a.2.1 = k ∧ o < a.2.2.1 ∧ a.2.2.1 ≤ o + ts.length
  | [], o, a, h => nomatch h
  | t :: ts, o, a, h => by
    rw [enR] at h
    rcases List.mem_append.mp h with h | h
    · split at h
      · rw [List.mem_singleton.mp h]
        exact ⟨rfl, rfl, Nat.lt_succ_self _, by rw [List.length_cons]; show o + 1 ≤ _; omega⟩
      · cases h
    · obtain ⟨h1, h2, h3, h4⟩ := enR_mem ts (o + 1) a h
      exact ⟨h1, h2, by omega, by rw [List.length_cons]; omega⟩
theorem enR_ord {p k : Nat} : ∀ (ts : List (List Rat)) (o : Nat), (enR p k o ts).Pairwise fun a c => a.2.2.1 < c.2.2.1
  | [], o => .nil
  | t :: ts, o => by
    rw [enR, List.pairwise_append]
    refine ⟨?_, enR_ord ts (o + 1), fun a ha c hc => ?_⟩
    · split
      · exact List.pairwise_singleton _ _
      · exact .nil
    · have h1 := (enR_mem ts (o + 1) c hc).2.2.1
      split at ha
      · rw [List.mem_singleton.mp ha]; exact h1
      · cases ha
def keyN (a : K4) : Nat := (a.1 * 100 + a.2.1) * 100 + a.2.2.1
/-- two lists in order with the same in them are one -/
theorem sorted_ext {α : Type} (key : α → Nat) : ∀ (l m : List α), (l.Pairwise fun a b => key a < key b) → (m.Pairwise fun a b => key a < key b) → (∀ a, a ∈ l ↔ a ∈ m) → l = m
  | [], [], _, _, _ => rfl
  | [], b :: m, _, _, h => nomatch (h b).mpr (List.mem_cons_self ..)
  | a :: l, [], _, _, h => nomatch (h a).mp (List.mem_cons_self ..)
  | a :: l, b :: m, hl, hm, h => by
    obtain ⟨l1, l2⟩ := List.pairwise_cons.mp hl
    obtain ⟨m1, m2⟩ := List.pairwise_cons.mp hm
    have e : a = b := by
      rcases List.mem_cons.mp ((h a).mp (List.mem_cons_self ..)) with e | ha
      · exact e
      · rcases List.mem_cons.mp ((h b).mpr (List.mem_cons_self ..)) with e | hb
        · exact e.symm
        · have := l1 b hb
          have := m1 a ha
          omega
    subst e
    rw [sorted_ext key l m l2 m2 fun c => ?_]
    constructor
    · intro hc
      rcases List.mem_cons.mp ((h c).mp (List.mem_cons_of_mem _ hc)) with e | hc2
      · have := l1 c hc; rw [e] at this; omega
      · exact hc2
    · intro hc
      rcases List.mem_cons.mp ((h c).mpr (List.mem_cons_of_mem _ hc)) with e | hc2
      · have := m1 c hc; rw [e] at this; omega
      · exact hc2
theorem sum_same {α : Type} (g : α → List Rat) (x : Rat) : ∀ (Z F : List α), (Z.Pairwise fun a c => a ≠ c) → (F.Pairwise fun a c => a ≠ c) → (∀ e, e ∈ F ↔ e ∈ Z) → ev (sR (F.map g)) x = ev (sR (Z.map g)) x
  | [], F, _, _, h => by
    have : F = [] := by
      cases F with
      | nil => rfl
      | cons a F => exact nomatch (h a).mp (List.mem_cons_self ..)
    rw [this]
  | a :: Z, F, hZ, hF, h => by
    obtain ⟨z1, z2⟩ := List.pairwise_cons.mp hZ
    obtain ⟨A, B, rfl⟩ := List.append_of_mem ((h a).mpr (List.mem_cons_self ..))
    obtain ⟨f1, f2, f3⟩ := List.pairwise_append.mp hF
    obtain ⟨f4, f5⟩ := List.pairwise_cons.mp f2
    have ih := sum_same g x Z (A ++ B) z2 (List.pairwise_append.mpr ⟨f1, f5, fun u hu w hw => f3 u hu w (List.mem_cons_of_mem _ hw)⟩) fun e => by
      constructor
      · intro he
        have h1 : e ∈ A ++ a :: B := by
          rcases List.mem_append.mp he with he | he
          · exact List.mem_append_left _ he
          · exact List.mem_append_right _ (List.mem_cons_of_mem _ he)
        rcases List.mem_cons.mp ((h e).mp h1) with e1 | e1
        · rcases List.mem_append.mp he with he | he
          · exact absurd e1 (f3 e he a (List.mem_cons_self ..))
          · exact absurd e1.symm (f4 e he)
        · exact e1
      · intro he
        rcases List.mem_append.mp ((h e).mpr (List.mem_cons_of_mem _ he)) with h1 | h1
        · exact List.mem_append_left _ h1
        · rcases List.mem_cons.mp h1 with e1 | e1
          · exact absurd e1.symm (z1 e he)
          · exact List.mem_append_right _ e1
    rw [List.map_append, sR_app] at ih ⊢
    rw [List.map_cons, List.map_cons, sR_cons, sR_cons, ev_add, ev_add, ← ih]
    grind
end DL

set_option linter.all false
set_option autoImplicit false
set_option maxRecDepth 10000
set_option maxHeartbeats 400000
namespace DL
open PySem PySem.Spec L2
local macro_rules | `(tactic| walk_at "dl") => `(tactic| simp -implicitDefEqProofs only [wSeq, wNext, wSet, wSetL, wAsg, wPar, parD, wRet, wExpr, wApp, wSetIx, wIf, wFrz, wRaise, wBreak, wCont, eVar, eC, eOp, tBl, dI, dB, dAdd, dSub, dMul, dFdiv, dMod, dPow, eNeg, dLt, dLe, dGt, dGe, dEq, dNe, dIs, dIsNot, eAnd, eOr, eNot, tAndD, tOrD, tNotD,
  aNil, aCons, eTup, eLst, lLst, eL, dIx, eSl, dSl, oNo, oSome, eCB, cLen, cAbs, cMax, cMin, cTuple, cList, cInt, eIsi, isiD, dName, dTupT, dCons, dNil, eCell, cellP, eIxO, eLenO, eCall, startΓ, startS, List.getElem?_cons_zero, List.getElem?_cons_succ, List.set, List.map, List.length, List.replicate, List.append, List.cons_append, List.nil_append, Nat.sub_self, Nat.reduceAdd, Nat.reduceSub, true_and, ixD_0, ixD_1, ixD_2, ixD_3, ixD_4, ixD_5, ixD_6, ixD_7, ixD_8, ixD_9, ixD_10, ixD_11, ixD_12, ixD_13, ixD_14, ixD_15, ixD_16, ixD_17, ixD_18, ixD_19])
def ixF (fs : List (List Rat)) (f : List Rat) : Nat := fs.findIdx fun g => decide (g = f)
theorem ixF_eq {fs : List (List Rat)} (hd : fs.Pairwise fun a c => a ≠ c) {k : Nat} {f : List Rat} (h : fs[k]? = some f) : ixF fs f = k := by
  obtain ⟨hlt, he⟩ := List.getElem?_eq_some_iff.mp h
  unfold ixF
  rw [List.findIdx_eq hlt]
  refine ⟨decide_eq_true he, fun j hj => decide_eq_false fun z => ?_⟩
  exact List.pairwise_iff_getElem.mp hd j k (by omega) hlt hj (by rw [z, he])
def tF (x3 : Int) (fs : List (List Rat)) (e : List Rat × Nat) : List (List Rat) := topsL (x3 + 7 * (ixF fs e.1 : Int)) e.1 e.2
structure In11 (fs : List (List Rat)) (ps : List Nat) : Prop where
  f : ∀ f ∈ fs, Fac f ∧ Irr f
  d : fs.Pairwise fun a c => a ≠ c
  l : ps.length = fs.length
  n1 : 1 ≤ fs.length
  n3 : fs.length ≤ 4
  p : ∀ p ∈ ps, 1 ≤ p ∧ p ≤ 10
theorem In11.mem {fs : List (List Rat)} {ps : List Nat} (h : In11 fs ps) {e : List Rat × Nat} : e ∈ fs.zip ps ↔ ∃ k : Nat, fs[k]? = some e.1 ∧ ps[k]? = some e.2 := by
  constructor
  · intro he
    obtain ⟨k, hk⟩ := List.getElem?_of_mem he
    rw [List.getElem?_zip_eq_some] at hk
    exact ⟨k, hk⟩
  · rintro ⟨k, h1, h2⟩
    have : (fs.zip ps)[k]? = some e := by rw [List.getElem?_zip_eq_some]; exact ⟨h1, h2⟩
    exact List.mem_of_getElem? this
theorem In11.zd {fs : List (List Rat)} {ps : List Nat} (h : In11 fs ps) : (fs.zip ps).Pairwise fun a c => a.1 ≠ c.1 := by
  refine List.pairwise_iff_getElem.mpr fun i j hi hj hlt => ?_
  rw [List.length_zip] at hi hj
  rw [List.getElem_zip, List.getElem_zip]
  exact List.pairwise_iff_getElem.mp h.d i j (by omega) (by omega) hlt
theorem In11.zi {fs : List (List Rat)} {ps : List Nat} (h : In11 fs ps) : ∀ e ∈ fs.zip ps, Fac e.1 ∧ Irr e.1 ∧ 1 ≤ e.2 ∧ e.2 ≤ 10 := fun e he => by
  obtain ⟨k, h1, h2⟩ := h.mem.mp he
  obtain ⟨a, b⟩ := h.f e.1 (List.mem_of_getElem? h1)
  exact ⟨a, b, h.p e.2 (List.mem_of_getElem? h2)⟩
noncomputable def sum11 (x3 : Int) (fs : List (List Rat)) (b : List Rat) (Z : List (List Rat × Nat)) : List Rat := sR (Z.map fun e => mulL (psum e.1 (tF x3 fs e)) (quo b (powR e.1 e.2)))
noncomputable def lstV (x3 : Int) (fs : List (List Rat)) (b : List Rat) : List K4 := (allP b fs).flatMap fun e => enR e.2 (ixF fs e.1) 0 (tF x3 fs e)
def lstU (x3 : Int) (fs : List (List Rat)) (ps : List Nat) : Nat → List K4
  | 0 => []
  | k + 1 => lstU x3 fs ps k ++ enR (ps.getD k 0) k 0 (topsL (x3 + 7 * (k : Int)) (fs.getD k []) (ps.getD k 0))
def toPc (fs : List (List Rat)) (a : K4) : Pc := (a.2.2.2, fs.getD a.2.1 [], a.2.2.1)
structure Out11 (x3 : Int) (fs : List (List Rat)) (ps : List Nat) (b u w : List Rat) : Prop where
  g : gcd u b = [1]
  q : quo u b = w
  t : tkL u b fs = (lstV x3 fs b).map (toPc fs)
  o : (lstV x3 fs b).Pairwise fun a c => keyN a < keyN c
  m : ∀ a, a ∈ lstV x3 fs b ↔ a ∈ lstU x3 fs ps fs.length
theorem main11 {x3 : Int} {fs : List (List Rat)} {ps : List Nat} (h : In11 fs ps) {u w : List Rat} (ru : IsRow u) (rw_ : IsRow w) (hu : ∀ x, ev u x = ev w x * ev (PR (fs.zip ps)) x + ev (sum11 x3 fs (PR (fs.zip ps)) (fs.zip ps)) x) : Out11 x3 fs ps (PR (fs.zip ps)) u w := by
  have zi := h.zi
  have mZ : ∀ e ∈ fs.zip ps, Mon e.1 := fun e he => (zi e he).2.1.m
  have mb : Mon (PR (fs.zip ps)) := PR_mon mZ
  have F := allP_facts (told := fs) mb.row mb.ne fun t ht => (h.f t ht).2.m.row
  have FZ := allP_rows (fun e he => (zi e he).2.1) (fun e he => (zi e he).2.2.1) h.zd (fun e he => (List.of_mem_zip he).1) (fun f hf => (h.f f hf).2.m.row) F
  have ixe : ∀ e ∈ fs.zip ps, ∃ k : Nat, fs[k]? = some e.1 ∧ ps[k]? = some e.2 ∧ ixF fs e.1 = k := fun e he => by
    obtain ⟨k, h1, h2⟩ := h.mem.mp he
    exact ⟨k, h1, h2, ixF_eq h.d h1⟩
  have tT : ∀ e ∈ fs.zip ps, (tF x3 fs e).length = e.2 ∧ ∀ t ∈ tF x3 fs e, IsRow t ∧ t.length < e.1.length := fun e he => by
    have fe := (zi e he).1
    exact ⟨topsL_len _ _ _, fun t ht => by
      obtain ⟨a, b, _⟩ := topsL_mem _ e.2 fe.l2 fe.l4 t ht
      exact ⟨a, b⟩⟩
  have Fd : (allP (PR (fs.zip ps)) fs).Pairwise fun a c => a ≠ c := List.pairwise_iff_getElem.mpr fun i j hi hj hlt z =>
    F.distinct (List.getElem?_eq_getElem hi) (List.getElem?_eq_getElem hj) (by omega) (by rw [z])
  have Zd : (fs.zip ps).Pairwise fun a c => a ≠ c := h.zd.imp fun hne z => hne (by rw [z])
  have U := tops_uniq F mb ru rw_ (tF x3 fs) (fun e he => tT e ((FZ e).mp he)) fun x => by
    rw [hu]
    unfold sum11
    rw [sum_same _ x (fs.zip ps) (allP (PR (fs.zip ps)) fs) Zd Fd FZ]
  -- no row of them divides the top
  have nd : ∀ e ∈ fs.zip ps, ¬ Dvd e.1 u := fun e he hd => by
    obtain ⟨fe, ie, k1, _⟩ := zi e he
    have heF := (FZ e).mpr he
    obtain ⟨mq, g, hv, _⟩ := F.rest_one mb heF
    have mw := powR_mon ie.m e.2
    have dh : Dvd e.1 (powR e.1 e.2) := by
      obtain ⟨j, hj⟩ : ∃ j, e.2 = j + 1 := ⟨e.2 - 1, by omega⟩
      rw [hj]
      exact ⟨powR e.1 j, fun x => by rw [ev_powR, ev_powR, Rat.pow_succ]⟩
    obtain ⟨A, B, hAB⟩ := List.append_of_mem he
    have oth : ∀ c ∈ A ++ B, Dvd e.1 (mulL (psum c.1 (tF x3 fs c)) (quo (PR (fs.zip ps)) (powR c.1 c.2))) := fun c hc => by
      have hcZ : c ∈ fs.zip ps := by
        rw [hAB]
        rcases List.mem_append.mp hc with hc | hc
        · exact List.mem_append_left _ hc
        · exact List.mem_append_right _ (List.mem_cons_of_mem _ hc)
      have hne : c ≠ e := by
        rw [hAB] at Zd
        obtain ⟨_, d2, d3⟩ := List.pairwise_append.mp Zd
        obtain ⟨d4, _⟩ := List.pairwise_cons.mp d2
        rcases List.mem_append.mp hc with hc | hc
        · exact d3 c hc e (List.mem_cons_self ..)
        · exact fun z => d4 c hc z.symm
      obtain ⟨i, hi⟩ := List.getElem?_of_mem heF
      obtain ⟨j, hj⟩ := List.getElem?_of_mem ((FZ c).mpr hcZ)
      have d := dh.trans (F.other mb.row mb.ne hi hj fun z => by
        rw [z, hj] at hi
        exact hne (Option.some.inj hi))
      obtain ⟨v, hv⟩ := d
      exact ⟨mulL (psum c.1 (tF x3 fs c)) v, fun x => by rw [ev_mul, hv, ev_mul]; grind⟩
    obtain ⟨u1, h1⟩ := sR_dvd (g := e.1) (A.map fun e => mulL (psum e.1 (tF x3 fs e)) (quo (PR (fs.zip ps)) (powR e.1 e.2))) fun a ha => by
      obtain ⟨c, hc, rfl⟩ := List.mem_map.mp ha
      exact oth c (List.mem_append_left _ hc)
    obtain ⟨u2, h2⟩ := sR_dvd (g := e.1) (B.map fun e => mulL (psum e.1 (tF x3 fs e)) (quo (PR (fs.zip ps)) (powR e.1 e.2))) fun a ha => by
      obtain ⟨c, hc, rfl⟩ := List.mem_map.mp ha
      exact oth c (List.mem_append_right _ hc)
    obtain ⟨u3, h3⟩ := hd
    obtain ⟨u4, h4⟩ := dh
    have dterm : Dvd e.1 (trim (mulL (trim (psum e.1 (tF x3 fs e))) (quo (PR (fs.zip ps)) (powR e.1 e.2)))) := by
      refine ⟨addL u3 (sclL (-1) (addL (mulL (mulL w (quo (PR (fs.zip ps)) (powR e.1 e.2))) u4) (addL u1 u2))), fun x => ?_⟩
      have e1 : ev (sum11 x3 fs (PR (fs.zip ps)) (fs.zip ps)) x = ev (sR (A.map fun e => mulL (psum e.1 (tF x3 fs e)) (quo (PR (fs.zip ps)) (powR e.1 e.2)))) x + (ev (mulL (psum e.1 (tF x3 fs e)) (quo (PR (fs.zip ps)) (powR e.1 e.2))) x + ev (sR (B.map fun e => mulL (psum e.1 (tF x3 fs e)) (quo (PR (fs.zip ps)) (powR e.1 e.2)))) x) := by
        unfold sum11
        have : (fs.zip ps).map (fun e => mulL (psum e.1 (tF x3 fs e)) (quo (PR (fs.zip ps)) (powR e.1 e.2))) = A.map (fun e => mulL (psum e.1 (tF x3 fs e)) (quo (PR (fs.zip ps)) (powR e.1 e.2))) ++ (mulL (psum e.1 (tF x3 fs e)) (quo (PR (fs.zip ps)) (powR e.1 e.2)) :: B.map fun e => mulL (psum e.1 (tF x3 fs e)) (quo (PR (fs.zip ps)) (powR e.1 e.2))) := by
          conv => lhs; arg 2; rw [hAB]
          rw [List.map_append, List.map_cons]
        rw [this, sR_app, sR_cons, ev_add]
      have h5 := hu x
      rw [e1, h1, h2, h3, hv, h4] at h5
      rw [ev_mul] at h5
      rw [ev_trim, ev_mul, ev_trim, ev_add, ev_scl, ev_add, ev_mul, ev_mul, ev_add]
      grind
    rcases ie.prime (b := quo (PR (fs.zip ps)) (powR e.1 e.2)) (row_trim (psum e.1 (tF x3 fs e))) (fun x => by rw [ev_trim, ev_mul]) dterm with z | z
    · obtain ⟨ts, t, hts, t0⟩ := topsL_last (x3 + 7 * (ixF fs e.1 : Int)) k1 fe.l2 fe.l4
      have ht := topsL_mem (x3 + 7 * (ixF fs e.1 : Int)) e.2 fe.l2 fe.l4 t (by rw [hts]; exact List.mem_append_right _ (List.mem_singleton.mpr rfl))
      have dt : Dvd e.1 t := by
        obtain ⟨y, hy⟩ := z
        refine ⟨addL y (sclL (-1) (psum e.1 ts)), fun x => ?_⟩
        have h6 := hy x
        unfold tF at h6
        rw [hts, ev_trim, psum_snoc] at h6
        rw [ev_add, ev_scl]
        grind
      exact t0 (dvd_short ie.m.row ie.m.ne ht.1 dt ht.2.1)
    · have F2 := shT_facts mq.row mw.row
      have : Dvd e.1 [1] := by
        have e1 : (shT (quo (PR (fs.zip ps)) (powR e.1 e.2)) (powR e.1 e.2)).1 = [1] := g
        rw [← e1]
        exact dvd_comb z ⟨u4, h4⟩ F2.eq
      have := (this.len ie.m.row row_one1 (by decide)).2
      have l := ie.l
      have : e.1.length ≤ 1 := this
      omega
  have u0 : u ≠ [] := fun z => by
    obtain ⟨f, hf⟩ : ∃ f, fs[0]? = some f := ⟨_, List.getElem?_eq_getElem (by have := h.n1; omega)⟩
    obtain ⟨p, hp⟩ : ∃ p, ps[0]? = some p := ⟨_, List.getElem?_eq_getElem (by have := h.n1; have := h.l; omega)⟩
    refine nd (f, p) (h.mem.mpr ⟨0, hf, hp⟩) ?_
    rw [z]
    exact .nil _
  refine ⟨?_, U.1, ?_, ?_, fun a => ?_⟩
  · refine gcd_vp_one ru mb.row u0 mb.ne fun p ip => ?_
    rcases Classical.em (∃ e ∈ fs.zip ps, e.1 = p) with ⟨e, he, rfl⟩ | hno
    · left
      rcases Nat.eq_zero_or_pos (vp e.1 u) with z | z
      · exact z
      · exact absurd ((vp_pos ip ru u0).mp z) (nd e he)
    · right
      rw [vp_PR ip mZ]
      exact ws_zero ip _ (fun e he => (zi e he).2.1) fun e he z => hno ⟨e, he, z⟩
  · unfold tkL lstV
    rw [List.map_flatMap]
    have : ∀ G : List (List Rat × Nat), (∀ e ∈ G, e ∈ allP (PR (fs.zip ps)) fs) → (G.flatMap fun e => pcT (tops (rem u (PR (fs.zip ps))) (PR (fs.zip ps)) e.1 e.2) e.1 e.2) = G.flatMap fun e => (enR e.2 (ixF fs e.1) 0 (tF x3 fs e)).map (toPc fs) := fun G => by
      induction G with
      | nil => intro _; rfl
      | cons e G ih =>
        intro hG
        rw [List.flatMap_cons, List.flatMap_cons, ih fun c hc => hG c (List.mem_cons_of_mem _ hc)]
        congr 1
        have heF := hG e (List.mem_cons_self ..)
        obtain ⟨k, h1, h2, h3⟩ := ixe e ((FZ e).mp heF)
        have e1 : tops (rem u (PR (fs.zip ps))) (PR (fs.zip ps)) e.1 e.2 = tF x3 fs e := U.2 e heF
        have tl := (tT e ((FZ e).mp heF)).1
        have e2 : pcT (tF x3 fs e) e.1 e.2 = pcR2 e.1 0 (tF x3 fs e) := by
          rw [← pcT_eq, tl]
        rw [e1, e2, ← enR_pc e.2 (ixF fs e.1)]
        refine List.map_congr_left fun a ha => ?_
        obtain ⟨_, m2, _, _⟩ := enR_mem _ 0 a ha
        unfold toPc
        rw [m2, h3, List.getD_eq_getElem?_getD, h1]
        rfl
    exact this _ fun e he => he
  · unfold lstV
    have bd : ∀ e ∈ allP (PR (fs.zip ps)) fs, ∀ a ∈ enR e.2 (ixF fs e.1) 0 (tF x3 fs e), a.1 = e.2 ∧ a.2.1 = ixF fs e.1 ∧ ixF fs e.1 < 4 ∧ a.2.2.1 ≤ 10 := fun e he a ha => by
      obtain ⟨k, h1, h2, h3⟩ := ixe e ((FZ e).mp he)
      obtain ⟨m1, m2, m3, m4⟩ := enR_mem _ 0 a ha
      have := (tT e ((FZ e).mp he)).1
      have := (zi e ((FZ e).mp he)).2.2.2
      have := (List.getElem?_eq_some_iff.mp h1).1
      have := h.n3
      exact ⟨m1, m2, by omega, by omega⟩
    have key : ∀ G : List (List Rat × Nat), (∀ e ∈ G, e ∈ allP (PR (fs.zip ps)) fs) → (G.Pairwise fun a c => ((a.2 : Int) :: sgL fs a.1) < ((c.2 : Int) :: sgL fs c.1)) → (G.Pairwise fun a c => a ≠ c) → (G.flatMap fun e => enR e.2 (ixF fs e.1) 0 (tF x3 fs e)).Pairwise fun a c => keyN a < keyN c := fun G => by
      induction G with
      | nil => intro _ _ _; exact .nil
      | cons e G ih =>
        intro hG ho hn
        obtain ⟨o1, o2⟩ := List.pairwise_cons.mp ho
        obtain ⟨n1, n2⟩ := List.pairwise_cons.mp hn
        have heF := hG e (List.mem_cons_self ..)
        rw [List.flatMap_cons, List.pairwise_append]
        refine ⟨(enR_ord _ 0).imp_of_mem fun ha hc hlt => ?_, ih (fun c hc => hG c (List.mem_cons_of_mem _ hc)) o2 n2, fun a ha c hc => ?_⟩
        · obtain ⟨m1, m2, _, _⟩ := bd e heF _ ha
          obtain ⟨m3, m4, _, _⟩ := bd e heF _ hc
          unfold keyN
          rw [m1, m2, m3, m4]
          omega
        · obtain ⟨d, hd, hc⟩ := List.mem_flatMap.mp hc
          have hdF := hG d (List.mem_cons_of_mem _ hd)
          obtain ⟨m1, m2, m5, m6⟩ := bd e heF a ha
          obtain ⟨m3, m4, m7, m8⟩ := bd d hdF c hc
          have olt := o1 d hd
          have lex : e.2 < d.2 ∨ (e.2 = d.2 ∧ ixF fs e.1 < ixF fs d.1) := by
            obtain ⟨k, h1, h2, h3⟩ := ixe e ((FZ e).mp heF)
            obtain ⟨j, g1, g2, g3⟩ := ixe d ((FZ d).mp hdF)
            rw [List.cons_lt_cons_iff] at olt
            rcases olt with olt | ⟨e2, olt⟩
            · left; omega
            · right
              refine ⟨by omega, ?_⟩
              rw [h3, g3]
              rcases Nat.lt_trichotomy k j with z | z | z
              · exact z
              · exfalso
                subst z
                rw [h1] at g1
                refine n1 d hd (Prod.ext (Option.some.inj g1) (by omega))
              · exfalso
                have := sg_lt fs j k d.1 e.1 (fun f hf => (h.f f hf).2) (zi d ((FZ d).mp hdF)).2.1 (zi e ((FZ e).mp heF)).2.1 h.d g1 h1 z
                exact absurd (List.lt_trans olt this) (List.lt_irrefl _)
          unfold keyN
          rw [m1, m2, m3, m4]
          have := enR_mem _ 0 c hc
          omega
    exact key _ (fun e he => he) F.o Fd
  · have inU : ∀ n, a ∈ lstU x3 fs ps n ↔ ∃ k, k < n ∧ a ∈ enR (ps.getD k 0) k 0 (topsL (x3 + 7 * (k : Int)) (fs.getD k []) (ps.getD k 0)) := fun n => by
      induction n with
      | zero => exact ⟨fun h => (nomatch h), fun ⟨k, hk, _⟩ => absurd hk (Nat.not_lt_zero _)⟩
      | succ n ih =>
        rw [lstU, List.mem_append, ih]
        constructor
        · rintro (⟨k, hk, hm⟩ | hm)
          · exact ⟨k, by omega, hm⟩
          · exact ⟨n, Nat.lt_succ_self _, hm⟩
        · rintro ⟨k, hk, hm⟩
          rcases Nat.lt_or_ge k n with z | z
          · exact .inl ⟨k, z, hm⟩
          · have : k = n := by omega
            subst this
            exact .inr hm
    rw [inU]
    unfold lstV
    rw [List.mem_flatMap]
    have same : ∀ (k : Nat) (e : List Rat × Nat), fs[k]? = some e.1 → ps[k]? = some e.2 → enR (ps.getD k 0) k 0 (topsL (x3 + 7 * (k : Int)) (fs.getD k []) (ps.getD k 0)) = enR e.2 (ixF fs e.1) 0 (tF x3 fs e) := fun k e h1 h2 => by
      unfold tF
      rw [ixF_eq h.d h1, List.getD_eq_getElem?_getD, List.getD_eq_getElem?_getD, h1, h2]
      rfl
    constructor
    · rintro ⟨e, he, ha⟩
      obtain ⟨k, h1, h2, h3⟩ := ixe e ((FZ e).mp he)
      exact ⟨k, (List.getElem?_eq_some_iff.mp h1).1, by rw [same k e h1 h2]; exact ha⟩
    · rintro ⟨k, hk, ha⟩
      have h1 : fs[k]? = some fs[k] := List.getElem?_eq_getElem hk
      have hk2 : k < ps.length := by have := h.l; omega
      have h2 : ps[k]? = some ps[k] := List.getElem?_eq_getElem hk2
      refine ⟨(fs[k], ps[k]), (FZ _).mpr (h.mem.mpr ⟨k, h1, h2⟩), ?_⟩
      rw [same k (fs[k], ps[k]) h1 h2] at ha
      exact ha
end DL

set_option linter.all false
set_option autoImplicit false
set_option maxRecDepth 10000
set_option maxHeartbeats 400000
namespace DL
open PySem PySem.Spec L2
local macro_rules | `(tactic| walk_at "dl") => `(tactic| simp -implicitDefEqProofs only [wSeq, wNext, wSet, wSetL, wAsg, wPar, parD, wRet, wExpr, wApp, wSetIx, wIf, wFrz, wRaise, wBreak, wCont, eVar, eC, eOp, tBl, dI, dB, dAdd, dSub, dMul, dFdiv, dMod, dPow, eNeg, dLt, dLe, dGt, dGe, dEq, dNe, dIs, dIsNot, eAnd, eOr, eNot, tAndD, tOrD, tNotD,
  aNil, aCons, eTup, eLst, lLst, eL, dIx, eSl, dSl, oNo, oSome, eCB, cLen, cAbs, cMax, cMin, cTuple, cList, cInt, eIsi, isiD, dName, dTupT, dCons, dNil, eCell, cellP, eIxO, eLenO, eCall, startΓ, startS, List.getElem?_cons_zero, List.getElem?_cons_succ, List.set, List.map, List.length, List.replicate, List.append, List.cons_append, List.nil_append, Nat.sub_self, Nat.reduceAdd, Nat.reduceSub, true_and, ixD_0, ixD_1, ixD_2, ixD_3, ixD_4, ixD_5, ixD_6, ixD_7, ixD_8, ixD_9, ixD_10, ixD_11, ixD_12, ixD_13, ixD_14, ixD_15, ixD_16, ixD_17, ixD_18, ixD_19])
theorem can_lst (xs : List D) : PyData.canLay0 (.list xs) = PyData.canLayAll0 xs := by rw [PyData.canLay0]
theorem dep_lst (xs : List D) : PyData.depth (.list xs) = PyData.depthAll xs + 1 := by rw [PyData.depth]
theorem eqv_lst (xs ys : List D) : PyData.eqv (.list xs) (.list ys) = PyData.eqvAll xs ys := by rw [PyData.eqv]
theorem shp_lst {n : Nat} {xs : List D} (h : ∀ d ∈ xs, Shp n d) : Shp (n + 1) (.list xs) := by
  have := Shp.tup h
  unfold Shp at this ⊢
  rw [can_tup, dep_tup] at this
  rw [can_lst, dep_lst]
  exact this
/-! ### law k11, walked -/
def R__law_tops (py : Prop) : List D → Res → Prop := fun ds r => ∃ (x : Int) (f : List Rat) (p : Nat), ds = [.int x, rowD f, .int p] ∧ 2 ≤ f.length ∧ f.length ≤ 4 ∧ 1 ≤ p ∧ p ≤ 10 ∧ r = .ok (.list ((topsL x f p).map rowD))
def w__law_tops (Ex : Nat → Prop) (py : Prop) : DS :=
  (wSeq (wSetL 3 (lLst aNil))
  (wSeq (wFor (iR1 (aCons (eVar 2) aNil)) (dName 4)
  (wSeq (wSet 5 (eCall Ex (R__law_stream py) (aCons (eOp dAdd (eVar 0) (eOp dMul (eC (.int 31)) (eVar 4))) (aCons (eC (.int 2)) aNil))))
  (wSeq (wSet 6 (eCall Ex (R__law_row_by py) (aCons (eOp dIx (eVar 5) (eC (.int 0))) (aCons (eOp dSub (eCB cLen (aCons (eVar 1) aNil)) (eC (.int 1))) aNil))))
  (wSeq (wIf (tBl (eOp dEq (eOp dMod (eOp dIx (eVar 5) (eC (.int 1))) (eC (.int 4))) (eC (.int 0))))
  (wSet 6 (eTup aNil))
  wNext)
  (wSeq (wIf (tAndD (tBl (eOp dEq (eVar 4) (eOp dSub (eVar 2) (eC (.int 1))))) (tBl (eOp dEq (eVar 6) (eTup aNil))))
  (wSet 6 (eTup (aCons (eTup (aCons (eOp dAdd (eC (.int 1)) (eOp dMod (eOp dIx (eVar 5) (eC (.int 1))) (eC (.int 6)))) (aCons (eC (.int 1)) aNil))) aNil)))
  wNext)
  (wApp 3 (eVar 6)))))))
  (wFrz 3 (wRet (eVar 3)))))

def w_law (Ex : Nat → Prop) (py : Prop) : DS :=
  (wSeq (wSet 1 (eCall Ex (R__law_stream py) (aCons (eCell 0 (eC (.int 0))) (aCons (eC (.int 4)) aNil))))
  (wSeq (wSet 2 (eCall Ex (R__law_factors py) (aCons (eOp dIx (eVar 1) (eC (.int 0))) (aCons (eCB cMin (aCons (eC (.int 3)) (aCons (eCall Ex (R__law_many py) (aCons (eOp dIx (eVar 1) (eC (.int 1))) aNil)) aNil))) aNil))))
  (wSeq (wSet 3 (eCall Ex (R__law_powers py) (aCons (eCell 0 (eC (.int 1))) (aCons (eVar 2) aNil))))
  (wSeq (wSet 4 (eCall Ex (R__law_bottom py) (aCons (eVar 2) (aCons (eVar 3) aNil))))
  (wSeq (wSet 5 (eCall Ex (R__law_row_by py) (aCons (eCell 0 (eC (.int 2))) (aCons (eC (.int 3)) aNil))))
  (wSeq (wSet 6 (eCall Ex (R__law_times py) (aCons (eVar 5) (aCons (eVar 4) aNil))))
  (wSeq (wSetL 7 (lLst aNil))
  (wSeq (wFor (iR1 (aCons (eCB cLen (aCons (eVar 2) aNil)) aNil)) (dName 8)
  (wSeq (wSet 10 (eCall Ex (R__law_tops py) (aCons (eOp dAdd (eCell 0 (eC (.int 3))) (eOp dMul (eC (.int 7)) (eVar 8))) (aCons (eOp dIx (eVar 2) (eVar 8)) (aCons (eOp dIx (eVar 3) (eVar 8)) aNil)))))
  (wFor (iR1 (aCons (eOp dIx (eVar 3) (eVar 8)) aNil)) (dName 11)
  (wSeq (wSet 12 (eOp dIx (eCall Ex (R__law_divide py) (aCons (eVar 4) (aCons (eCall Ex (R__law_power py) (aCons (eOp dIx (eVar 2) (eVar 8)) (aCons (eOp dAdd (eVar 11) (eC (.int 1))) aNil))) aNil))) (eC (.int 0))))
  (wSeq (wSet 6 (eCall Ex (R__law_plus py) (aCons (eVar 6) (aCons (eCall Ex (R__law_times py) (aCons (eOp dIx (eVar 10) (eVar 11)) (aCons (eVar 12) aNil))) aNil))))
  (wIf (tBl (eOp dNe (eOp dIx (eVar 10) (eVar 11)) (eTup aNil)))
  (wApp 7 (eTup (aCons (eOp dIx (eVar 3) (eVar 8)) (aCons (eVar 8) (aCons (eOp dAdd (eVar 11) (eC (.int 1))) (aCons (eOp dIx (eVar 10) (eVar 11)) aNil))))))
  wNext))))))
  (wSeq (wFrz 7 (wSet 9 (eL (lLc (iLst (eCB cSorted (aCons (eVar 7) aNil))) [13, 8, 11, 14] (dTupT (dCons (dName 13) (dCons (dName 8) (dCons (dName 11) (dCons (dName 14) dNil))))) tYesD (eTup (aCons (eVar 14) (aCons (eOp dIx (eVar 2) (eVar 8)) (aCons (eVar 11) aNil))))))))
  (wRet (eOp dEq (eCall Ex (R_apart py) (aCons (eTup (aCons (eVar 6) (aCons (eVar 4) aNil))) (aCons (eVar 2) aNil))) (eTup (aCons (eVar 5) (aCons (eVar 9) aNil))))))))))))))

theorem pure__law_tops (py : Prop) (ds : List D) (r : Res) (h : R__law_tops py ds r) : w__law_tops (fun g => r = .err g) py (endsOf r) (startΓ ["_law_x", "_law_row", "_law_power_here", "_law_tops_here", "_law_k", "_law_xs", "_law_top"] ds) := by
  obtain ⟨x, f, p, rfl, l2, l4, p1, p10, rfl⟩ := h
  unfold w__law_tops topsL
  refine seq_go fun nx hnx => ?_
  walk_at "dl"
  refine hnx _ ?_
  refine seq_go fun nx hnx => ?_
  unfold wFor iR1
  walk_at "dl"
  refine ⟨inR_of (by omega) (by omega), ?_⟩
  rw [Int.toNat_natCast]
  refine for_inv (fun (k : Nat) (Γ : Ct) => k ≤ p ∧ ∃ e4 e5 e6 : En, Γ = [.im (.int x), .im (rowD f), .im (.int p), .own (((List.range k).map (topR x f p)).map rowD), e4, e5, e6]) (fun k d nx' Γ hd hn' hI => ?_) (fun Γ hI => ?_) ⟨Nat.zero_le _, _, _, _, rfl⟩
  · obtain ⟨_, e4, e5, e6, rfl⟩ := hI
    obtain ⟨hk, rfl⟩ := rngD_at hd
    rw [Int.zero_add]
    have m31 : CMulX 31 (k : Int) := mulx_of (a := 8) (b := 8) (by decide) (by omega) (by decide)
    have lf : (f.length : Int) - 1 = ((f.length - 1 : Nat) : Int) := by omega
    refine seq_go fun nx2 hnx2 => ?_
    walk_at "dl"
    refine ⟨m31, call_ok ⟨x + 31 * (k : Int), 2, rfl, by decide, rfl⟩ (hnx2 _ ?_)⟩
    have get : ∀ i, i < 2 → ((stream (x + 31 * (k : Int)) 2).map PyData.int)[i]? = some (.int ((stream (x + 31 * (k : Int)) 2).getD i 0)) := fun i hi => stream_get hi
    have eB : topB x f k = if (stream (x + 31 * (k : Int)) 2).getD 1 0 % 4 = 0 then [] else rowBy ((stream (x + 31 * (k : Int)) 2).getD 0 0) (f.length - 1) := rfl
    have eR : topR x f p k = if k + 1 = p ∧ topB x f k = [] then [((1 + (stream (x + 31 * (k : Int)) 2).getD 1 0 % 6 : Int) : Rat)] else topB x f k := rfl
    unfold intsD
    generalize stream (x + 31 * (k : Int)) 2 = s at get eB eR ⊢
    refine seq_go fun nx2 hnx2 => ?_
    unfold rowD
    walk_at "dl"
    rw [get 0 (by decide), List.length_map, lf]
    refine call_ok ⟨s.getD 0 0, f.length - 1, rfl, by omega, rfl⟩ (hnx2 _ ?_)
    refine seq_go fun nx2 hnx2 => ?_
    have base : nx2 [.im (.int x), .im (rowD f), .im (.int p), .own (((List.range k).map (topR x f p)).map rowD), .im (.int k), .im (.list (s.map PyData.int)), .im (rowD (topB x f k))] := by
      refine hnx2 _ ?_
      refine seq_go fun nx3 hnx3 => ?_
      have app : ∀ t : List Rat, topR x f p k = t → nx3 [.im (.int x), .im (rowD f), .im (.int p), .own (((List.range k).map (topR x f p)).map rowD), .im (.int k), .im (.list (s.map PyData.int)), .im (rowD t)] := fun t ht => by
        refine hnx3 _ ?_
        walk_at "dl"
        refine ⟨line_lt (by rw [List.length_map, List.length_map, List.length_range]; omega), hn' _ ⟨hk, .im (.int k), .im (.list (s.map PyData.int)), .im (rowD t), ?_⟩⟩
        rw [List.range_succ, List.map_append, List.map_append, ← ht]
        rfl
      by_cases c0 : k + 1 = p ∧ topB x f k = []
      · have e : topR x f p k = [((1 + s.getD 1 0 % 6 : Int) : Rat)] := by rw [eR, if_pos c0]
        refine if_true (fun P hP => ?_) ?_
        · walk_at "dl"
          rw [decide_eq_true (show (k : Int) = (p : Int) - 1 by omega)]
          refine And.intro ⟨shaped_row _, shaped_row []⟩ ?_
          rw [eqv_nil, decide_eq_true c0.2]
          exact hP
        · walk_at "dl"
          rw [get 1 (by decide)]
          refine ⟨by decide, ?_⟩
          have ec : PyData.tuple [.int (1 + s.getD 1 0 % 6), .int 1] = frD ((1 + s.getD 1 0 % 6 : Int) : Rat) := by unfold frD; rw [Rat.num_intCast, Rat.den_intCast]; rfl
          rw [ec]
          exact app _ e
      · have e : topR x f p k = topB x f k := by rw [eR, if_neg c0]
        refine if_false (fun P hP => ?_) (app _ e)
        walk_at "dl"
        by_cases c1 : k + 1 = p
        · rw [decide_eq_true (show (k : Int) = (p : Int) - 1 by omega)]
          refine And.intro ⟨shaped_row _, shaped_row []⟩ ?_
          rw [eqv_nil, decide_eq_false fun z => c0 ⟨c1, z⟩]
          exact hP
        · rw [decide_eq_false (show ¬ ((k : Int) = (p : Int) - 1) by omega)]
          exact hP
    by_cases c0 : s.getD 1 0 % 4 = 0
    · rw [if_pos c0] at eB
      rw [eB] at base
      refine if_true (fun P hP => ?_) base
      walk_at "dl"
      rw [get 1 (by decide)]
      refine ⟨by decide, ?_⟩
      rw [decide_eq_true c0]
      exact hP
    · rw [if_neg c0] at eB
      rw [eB] at base
      refine if_false (fun P hP => ?_) base
      walk_at "dl"
      rw [get 1 (by decide)]
      refine ⟨by decide, ?_⟩
      rw [decide_eq_false c0]
      exact hP
  · obtain ⟨_, e4, e5, e6, rfl⟩ := hI
    refine hnx _ ?_
    rw [rngD_length]
    rfl
def dueD (a : K4) : D := .tuple [.int a.1, .int a.2.1, .int a.2.2.1, rowD a.2.2.2]
theorem alike_fr (a b : Rat) : PySem.W.alike (frD a) (frD b) = true := by
  unfold frD
  unfold PySem.W.alike
  unfold PySem.W.alikeAll
  unfold PySem.W.alikeAll
  unfold PySem.W.alikeAll
  unfold PySem.W.alike
  rfl
theorem alike_rowL : ∀ p q : List Rat, PySem.W.alikeAll (p.map frD) (q.map frD) = true
  | [], _ => by rw [List.map_nil]; unfold PySem.W.alikeAll; rfl
  | a :: p, [] => by rw [List.map_cons, List.map_nil]; unfold PySem.W.alikeAll; rfl
  | a :: p, b :: q => by
    rw [List.map_cons, List.map_cons]
    unfold PySem.W.alikeAll
    rw [alike_rowL p q, alike_fr]
    rfl
theorem alike_row (p q : List Rat) : PySem.W.alike (rowD p) (rowD q) = true := by
  unfold rowD PySem.W.alike
  exact alike_rowL p q
theorem alike_int (i j : Int) : PySem.W.alike (.int i) (.int j) = true := by unfold PySem.W.alike; rfl
theorem alike_due (a c : K4) : PySem.W.alike (dueD a) (dueD c) = true := by
  unfold dueD
  rw [PySem.W.alike, PySem.W.alikeAll, PySem.W.alikeAll, PySem.W.alikeAll, PySem.W.alikeAll, PySem.W.alikeAll, alike_int, alike_int, alike_int, alike_row]
  rfl
theorem lt_due {a c : K4} (ha : a.2.1 < 100 ∧ a.2.2.1 < 100) (hc : c.2.1 < 100 ∧ c.2.2.1 < 100) (hne : keyN a ≠ keyN c) : PySem.W.dataLt (dueD a) (dueD c) = decide (keyN a < keyN c) := by
  unfold dueD
  rw [PySem.W.dataLt_tuple, PySem.W.dataLt_cons (alike_int _ _), PySem.W.dataLt_cons (alike_int _ _), PySem.W.dataLt_cons (alike_int _ _), PySem.W.dataLt_int, PySem.W.dataLt_int, PySem.W.dataLt_int, eqv_int, eqv_int, eqv_int]
  unfold keyN at hne ⊢
  by_cases h1 : a.1 = c.1
  · rw [if_pos (by rw [h1]; exact beq_self_eq_true _)]
    by_cases h2 : a.2.1 = c.2.1
    · rw [if_pos (by rw [h2]; exact beq_self_eq_true _)]
      by_cases h3 : a.2.2.1 = c.2.2.1
      · exfalso; omega
      · rw [if_neg (by rw [beq_iff_eq]; omega)]
        exact decide_eq_decide.mpr (by omega)
    · rw [if_neg (by rw [beq_iff_eq]; omega)]
      exact decide_eq_decide.mpr (by omega)
  · rw [if_neg (by rw [beq_iff_eq]; omega)]
    exact decide_eq_decide.mpr (by omega)
theorem dataLt_same (d : D) : PySem.W.dataLt d d = false := by
  unfold PySem.W.dataLt
  first | exact PySem.W.lex_irrefl _ | exact PyProof.Rows.lex_irrefl _
theorem lstU_bd {x3 : Int} {fs : List (List Rat)} {ps : List Nat} (h : In11 fs ps) : ∀ n, n ≤ fs.length → (∀ a ∈ lstU x3 fs ps n, a.2.1 < n ∧ a.2.2.1 < 100) ∧ (lstU x3 fs ps n).Pairwise (fun a c => keyN a ≠ keyN c) ∧ (lstU x3 fs ps n).length ≤ 10 * n
  | 0, _ => ⟨(fun a ha => nomatch ha), .nil, Nat.le_refl _⟩
  | n + 1, hn => by
    obtain ⟨h1, h2, h3⟩ := lstU_bd (x3 := x3) h n (by omega)
    have n4 := h.n3
    have hl := h.l
    have hp : ps.getD n 0 ≤ 10 := by
      have e : ps[n]? = some ps[n] := List.getElem?_eq_getElem (by omega)
      rw [List.getD_eq_getElem?_getD, e]
      exact (h.p _ (List.mem_of_getElem? e)).2
    have mem : ∀ a ∈ enR (ps.getD n 0) n 0 (topsL (x3 + 7 * (n : Int)) (fs.getD n []) (ps.getD n 0)), a.1 = ps.getD n 0 ∧ a.2.1 = n ∧ a.2.2.1 ≤ 10 := fun a ha => by
      obtain ⟨m1, m2, m3, m4⟩ := enR_mem _ 0 a ha
      rw [topsL_len] at m4
      exact ⟨m1, m2, by omega⟩
    have len : ∀ (p k : Nat) (ts : List (List Rat)) (o : Nat), (enR p k o ts).length ≤ ts.length := fun p k ts => by
      induction ts with
      | nil => intro o; exact Nat.le_refl _
      | cons t ts ih =>
        intro o
        have := ih (o + 1)
        rw [enR, List.length_append, List.length_cons]
        split
        · show 1 + _ ≤ _; omega
        · show 0 + _ ≤ _; omega
    rw [lstU]
    refine ⟨fun a ha => ?_, List.pairwise_append.mpr ⟨h2, (enR_ord _ 0).imp_of_mem fun ha hc hlt => ?_, fun a ha c hc => ?_⟩, ?_⟩
    · rcases List.mem_append.mp ha with ha | ha
      · have := h1 a ha; omega
      · have := mem a ha; omega
    · obtain ⟨a1, a2, a3⟩ := mem _ ha
      obtain ⟨c1, c2, c3⟩ := mem _ hc
      unfold keyN
      omega
    · have := h1 a ha
      obtain ⟨c1, c2, c3⟩ := mem c hc
      unfold keyN
      omega
    · have := len (ps.getD n 0) n (topsL (x3 + 7 * (n : Int)) (fs.getD n []) (ps.getD n 0)) 0
      rw [topsL_len] at this
      rw [List.length_append]
      omega
theorem sort_due {x3 : Int} {fs : List (List Rat)} {ps : List Nat} {b u w : List Rat} (h : In11 fs ps) (o : Out11 x3 fs ps b u w) : ((lstU x3 fs ps fs.length).map dueD).mergeSort (PySem.W.dataLe false id) = (lstV x3 fs b).map dueD := by
  obtain ⟨b1, b2, b3⟩ := lstU_bd (x3 := x3) h fs.length (Nat.le_refl _)
  have n4 := h.n3
  have inj : ∀ a ∈ lstU x3 fs ps fs.length, ∀ c ∈ lstU x3 fs ps fs.length, a ≠ c → keyN a ≠ keyN c := fun a ha c hc hne => by
    obtain ⟨i, hi⟩ := List.getElem?_of_mem ((o.m a).mpr ha)
    obtain ⟨j, hj⟩ := List.getElem?_of_mem ((o.m c).mpr hc)
    obtain ⟨li, ei⟩ := List.getElem?_eq_some_iff.mp hi
    obtain ⟨lj, ej⟩ := List.getElem?_eq_some_iff.mp hj
    have P := List.pairwise_iff_getElem.mp o.o
    rcases Nat.lt_trichotomy i j with z | z | z
    · have := P i j li lj z
      rw [ei, ej] at this
      omega
    · subst z
      rw [ei] at ej
      exact absurd ej hne
    · have := P j i lj li z
      rw [ei, ej] at this
      omega
  have e1 : (lstU x3 fs ps fs.length).mergeSort (fun a c => decide (keyN a ≤ keyN c)) = lstV x3 fs b := by
    refine sorted_ext keyN _ _ ?_ o.o fun a => ?_
    · have s1 := List.pairwise_mergeSort (le := fun a c : K4 => decide (keyN a ≤ keyN c)) (fun a b c h1 h2 => by
        have h1 := of_decide_eq_true h1
        have h2 := of_decide_eq_true h2
        exact decide_eq_true (Nat.le_trans h1 h2)) (fun a b => by
        rcases Nat.le_total (keyN a) (keyN b) with z | z
        · rw [decide_eq_true z]; rfl
        · rw [decide_eq_true z, Bool.or_true]) (lstU x3 fs ps fs.length)
      have s2 : ((lstU x3 fs ps fs.length).mergeSort (fun a c => decide (keyN a ≤ keyN c))).Pairwise (fun a c => keyN a ≠ keyN c) := ((List.mergeSort_perm _ _).pairwise_iff (fun {a c} hne => fun z => hne z.symm)).mpr b2
      exact (s1.and s2).imp fun ⟨p1, p2⟩ => by
        have := of_decide_eq_true p1
        omega
    · rw [List.mem_mergeSort, o.m]
  have e2 := List.map_mergeSort (r := fun a c : K4 => decide (keyN a ≤ keyN c)) (s := PySem.W.dataLe false id) (f := dueD) (l := lstU x3 fs ps fs.length) fun a ha c hc => by
    show decide (keyN a ≤ keyN c) = !PySem.W.dataLt (dueD c) (dueD a)
    by_cases z : a = c
    · rw [z, dataLt_same, decide_eq_true (Nat.le_refl _)]; rfl
    · have hne := inj a ha c hc z
      have ba := b1 a ha
      have bc := b1 c hc
      rw [lt_due (by omega) (by omega) hne.symm]
      by_cases y : keyN c < keyN a
      · rw [decide_eq_true y, decide_eq_false (by omega)]; rfl
      · rw [decide_eq_false y, decide_eq_true (by omega)]; rfl
  rw [← e2, e1]
theorem shaped_ap (w : List Rat) (l : List Pc) : SeqAt.shaped (.tuple [rowD w, .list (l.map tpD)]) = true := by
  have s1 : ∀ a : Pc, Shp 3 (tpD a) := fun a => .tup fun d hd => by
    simp only [List.mem_cons, List.not_mem_nil, or_false] at hd
    rcases hd with rfl | rfl | rfl
    · exact shp_row _
    · exact shp_row _
    · exact .int _ _
  have s2 : Shp 4 (.list (l.map tpD)) := shp_lst fun d hd => by
    obtain ⟨a, _, rfl⟩ := List.mem_map.mp hd
    exact s1 a
  have up : ∀ {m n : Nat} {d : D}, Shp m d → m ≤ n → Shp n d := fun h hn => ⟨h.1, Nat.le_trans h.2 hn⟩
  exact (Shp.tup (n := 4) fun d hd => by
    simp only [List.mem_cons, List.not_mem_nil, or_false] at hd
    rcases hd with rfl | rfl
    · exact up (shp_row w) (by decide)
    · exact s2).shaped (by decide)
theorem eqv_ap (w : List Rat) (l : List Pc) : PyData.eqv (.tuple [rowD w, .list (l.map tpD)]) (.tuple [rowD w, .list (l.map tpD)]) = true := by
  have e1 : PyData.eqvAll (l.map tpD) (l.map tpD) = true := by
    induction l with
    | nil => exact eqvAll_nil
    | cons a l ih =>
      rw [List.map_cons, eqvAll_cons, ih]
      unfold tpD
      rw [eqv_tup, eqvAll_cons, eqvAll_cons, eqvAll_cons, eqvAll_nil, eqv_row, eqv_row, eqv_int, decide_eq_true rfl, decide_eq_true rfl, beq_self_eq_true]
      rfl
  rw [eqv_tup, eqvAll_cons, eqvAll_cons, eqvAll_nil, eqv_lst, e1, eqv_row, decide_eq_true rfl]
  rfl
theorem enR_len (p k : Nat) : ∀ (ts : List (List Rat)) (o : Nat), (enR p k o ts).length ≤ ts.length
  | [], o => Nat.le_refl 0
  | t :: ts, o => by
    have := enR_len p k ts (o + 1)
    rw [enR, List.length_append, List.length_cons]
    split
    · show 1 + _ ≤ _; omega
    · show 0 + _ ≤ _; omega
theorem fewU (x3 : Int) {fs : List (List Rat)} {ps : List Nat} (h : In11 fs ps) {k : Nat} (hk : k ≤ fs.length) (p : Nat) (ts : List (List Rat)) (j : Nat) (tl : ts.length = p) (p10 : p ≤ 10) : (List.map dueD (lstU x3 fs ps k ++ enR p k 0 (ts.take j))).length < sizeLine := by
  have h1 := (lstU_bd (x3 := x3) h k hk).2.2
  have h2 := enR_len p k (ts.take j) 0
  have h3 := h.n3
  rw [List.length_take] at h2
  exact line_lt (by rw [List.length_map, List.length_append]; omega)
theorem four {c : Int} : ∃ a0 a1 a2 a3, stream c 4 = [a0, a1, a2, a3] := ⟨_, _, _, _, rfl⟩
theorem min3 (m : Nat) : (if ((m : Nat) : Int) < 3 then (m : Int) else 3) = ((min 3 m : Nat) : Int) := by split <;> omega
set_option maxHeartbeats 2000000 in
theorem pure_law (py : Prop) (hpy : py) (Ex : Nat → Prop) (ns : List Int) (ds : List D) (d : D) (h : R_law ns ds d) : w_law Ex py { nx := fun _ => d = .none, rt := fun d' => d = d' } (startS ["_law_script", "_law_xs", "_law_rows", "_law_powers_here", "_law_bottom_here", "_law_whole", "_law_top", "_law_due", "_law_k", "_law_pieces", "_law_tops_here", "_law_j", "_law_over", "_law_power_here", "_law_piece"] ns ds) := by
  obtain ⟨rfl, rfl⟩ := h
  unfold w_law
  obtain ⟨a0, a1, a2, a3, ha⟩ := four (c := cellD ns 0)
  have l0 : ∀ n, n < 134217728 → Lim py n := fun n hn => ⟨by omega, .inr hpy⟩
  refine seq_go fun nx hnx => ?_
  walk_at "dl"
  refine ⟨by decide, call_ok ⟨cellD ns 0, 4, rfl, by decide, rfl⟩ (hnx _ ?_)⟩
  rw [ha]
  have hx : intsD [a0, a1, a2, a3] = .list [.int a0, .int a1, .int a2, .int a3] := rfl
  rw [hx]
  have mn := manyN_le a1
  refine seq_go fun nx hnx => ?_
  walk_at "dl"
  refine call_ok ⟨a1, rfl, rfl⟩ ?_
  dsimp only
  rw [min3]
  refine call_ok ⟨a0, min 3 (manyN a1), rfl, by omega, rfl⟩ (hnx _ ?_)
  have hf := facL_fac a0 (min 3 (manyN a1)) (by omega)
  have hi : ∀ f ∈ facL a0 (min 3 (manyN a1)), Irr f := fun f hf => by
    unfold facL at hf
    obtain ⟨k, _, rfl⟩ := List.mem_map.mp hf
    exact facR_irr _ k
  have fl := facL_len a0 (min 3 (manyN a1))
  have fd := facL_dist a0 (min 3 (manyN a1))
  generalize facL a0 (min 3 (manyN a1)) = fs at hf hi fl fd ⊢
  -- the bottom
  have pwl := pwL_len (cellD ns 1) fs hf
  have pwle := pwL_le (cellD ns 1) fs hf
  have pwd := pwL_deg14 (cellD ns 1) fs hf (by omega)
  refine seq_go fun nx hnx => ?_
  walk_at "dl"
  refine ⟨by decide, call_ok ⟨cellD ns 1, fs, rfl, hf, by omega, rfl⟩ (hnx _ ?_)⟩
  generalize pwL (cellD ns 1) fs = ps at pwl pwle pwd ⊢
  have I11 : In11 fs ps := ⟨fun f h => ⟨hf f h, hi f h⟩, fd, pwl, by omega, by omega, pwle⟩
  have fz : ∀ e ∈ fs.zip ps, Fac e.1 ∧ Irr e.1 := fun e he => ⟨hf e.1 (List.of_mem_zip he).1, hi e.1 (List.of_mem_zip he).1⟩
  have B := bot_facts (fs.zip ps) fz (by omega)
  have zl : (fs.zip ps).length ≤ 4 := by rw [List.length_zip]; omega
  have Bl := B.l
  have Bpd := B.pd
  have sB : Sr 417 (PR (fs.zip ps)) := (B.d _ B.m (.refl _)).up (by omega)
  have pB : Pd 417 (PR (fs.zip ps)) := B.d.up (by omega)
  have mB := B.m
  refine seq_go fun nx hnx => ?_
  walk_at "dl"
  refine call_ok ⟨fs, ps, rfl, by omega, by omega, fun f hf' => ⟨hf f hf', hi f hf'⟩, fun p hp => (pwle p hp).2, by omega, l0 _ (by decide), rfl⟩ (hnx _ ?_)
  have M11 := fun u w ru rw_ hu => main11 (x3 := cellD ns 3) (u := u) (w := w) I11 ru rw_ hu
  have dvb : ∀ k f p, fs[k]? = some f → ps[k]? = some p → ∀ j, j ≤ p → Dvd (powR f j) (PR (fs.zip ps)) := fun k f p h1 h2 j hj => by
    have F := allP_facts (told := fs) mB.row mB.ne fun t ht => (hi t ht).m.row
    have FZ := allP_rows (fun e he => (fz e he).2) (fun e he => (I11.zi e he).2.2.1) I11.zd (fun e he => (List.of_mem_zip he).1) (fun f hf => (hi f hf).m.row) F
    have he := (FZ (f, p)).mpr (I11.mem.mpr ⟨k, h1, h2⟩)
    exact F.divPow mB.row mB.ne he hj
  have zk : ∀ k f p, fs[k]? = some f → ps[k]? = some p → (fs.zip ps)[k]? = some (f, p) := fun k f p h1 h2 => by rw [List.getElem?_zip_eq_some]; exact ⟨h1, h2⟩
  generalize hb : PR (fs.zip ps) = b at Bl sB pB mB M11 dvb ⊢
  -- the whole
  have rw_ := rowBy_row (cellD ns 2) 3
  have lw := rowBy_len (cellD ns 2) 3
  have sw : Sr 61 (rowBy (cellD ns 2) 3) := (sr_of (rowBy_az (cellD ns 2) 3)).up (by omega)
  refine seq_go fun nx hnx => ?_
  walk_at "dl"
  refine ⟨by decide, call_ok ⟨cellD ns 2, 3, rfl, by decide, rfl⟩ (hnx _ ?_)⟩
  generalize rowBy (cellD ns 2) 3 = w at rw_ lw sw ⊢
  have k0 := mulR_len w b
  refine seq_go fun nx hnx => ?_
  walk_at "dl"
  refine call_ok ⟨w, b, 61, 417, rfl, sw, sB, l0 _ (by decide), by omega, by omega, rfl⟩ (hnx _ ?_)
  refine seq_go fun nx hnx => ?_
  walk_at "dl"
  refine hnx _ ?_
  have s0 : Sr 484 (trim (mulL w b)) := ((sw.mul sB (k := 4) (by omega)).trim).up (by decide)
  have bp := mB.pos
  -- the tops
  refine seq_go fun nx hnx => ?_
  unfold wFor iR1
  walk_at "dl"
  rw [List.length_map]
  refine ⟨inR_of (by omega) (by omega), ?_⟩
  rw [Int.toNat_natCast]
  refine for_inv (fun (k : Nat) (Γ : Ct) => k ≤ fs.length ∧ ∃ (u : List Rat) (e8 e10 e11 e12 : En), Γ = [.scr ns, .im (.list [.int a0, .int a1, .int a2, .int a3]), .im (.list (fs.map rowD)), .im (natsD ps), .im (rowD b), .im (rowD w), .im (rowD u), .own ((lstU (cellD ns 3) fs ps k).map dueD), e8, .no, e10, e11, e12, .no, .no] ∧ noOwn Γ [8, 11] = true ∧ IsRow u ∧ u.length ≤ 18 ∧ (∃ N, N ≤ (10 * k + 1) * 500 ∧ Sr N u) ∧ ∀ x, ev u x = ev w x * ev b x + ev (sum11 (cellD ns 3) fs b ((fs.zip ps).take k)) x) (fun k d nx' Γ hd hn' hI => ?_) (fun Γ hI => ?_) ⟨Nat.zero_le _, trim (mulL w b), .no, .no, .no, .no, rfl, rfl, row_trim _, by omega, ⟨484, by omega, s0⟩, fun x => by rw [List.take_zero, ev_trim, ev_mul]; show _ = _ + (0 : Rat); rw [Rat.add_zero]⟩
  · obtain ⟨_, u, e8, e10, e11, e12, rfl, hno, ru, lu, su, vu⟩ := hI
    obtain ⟨hk, rfl⟩ := rngD_at hd
    rw [Int.zero_add]
    obtain ⟨f, hfk⟩ : ∃ f, fs[k]? = some f := ⟨_, List.getElem?_eq_getElem hk⟩
    obtain ⟨p, hpk⟩ : ∃ p, ps[k]? = some p := ⟨_, List.getElem?_eq_getElem (by omega)⟩
    have ff := hf f (List.mem_of_getElem? hfk)
    have fi := hi f (List.mem_of_getElem? hfk)
    obtain ⟨p1, p10⟩ := pwle p (List.mem_of_getElem? hpk)
    have f2 := ff.l2
    have f4 := ff.l4
    have gf : (fs.map rowD)[k]? = some (rowD f) := by rw [List.getElem?_map, hfk]; rfl
    have gp : (ps.map fun p => PyData.int ((p : Nat) : Int))[k]? = some (.int p) := by rw [List.getElem?_map, hpk]; rfl
    have gdf : fs.getD k [] = f := by rw [List.getD_eq_getElem?_getD, hfk]; rfl
    have gdp : ps.getD k 0 = p := by rw [List.getD_eq_getElem?_getD, hpk]; rfl
    have eU : lstU (cellD ns 3) fs ps (k + 1) = lstU (cellD ns 3) fs ps k ++ enR p k 0 (topsL (cellD ns 3 + 7 * (k : Int)) f p) := by rw [lstU, gdf, gdp]
    have eT : tF (cellD ns 3) fs (f, p) = topsL (cellD ns 3 + 7 * (k : Int)) f p := by unfold tF; rw [ixF_eq fd hfk]
    have tm := topsL_mem (cellD ns 3 + 7 * (k : Int)) p f2 f4
    have tln := topsL_len (cellD ns 3 + 7 * (k : Int)) f p
    have tk : (fs.zip ps).take (k + 1) = (fs.zip ps).take k ++ [(f, p)] := by rw [List.take_succ, zk k f p hfk hpk]; rfl
    have m7 : CMulX 7 (k : Int) := mulx_of (a := 8) (b := 8) (by decide) (by omega) (by decide)
    have dpow := dvb k f p hfk hpk
    have ub := fewU (cellD ns 3) I11 (Nat.le_of_lt hk)
    have lw2 := powR_len2 fi.m
    simp -implicitDefEqProofs only [dName, List.set]
    refine seq_go fun nx2 hnx2 => ?_
    unfold natsD
    walk_at "dl"
    refine ⟨by decide, m7, ixD_at k rfl gf (ixD_at k rfl gp ?_)⟩
    refine call_ok ⟨cellD ns 3 + 7 * (k : Int), f, p, rfl, f2, f4, p1, p10, rfl⟩ (hnx2 _ ?_)
    generalize topsL (cellD ns 3 + 7 * (k : Int)) f p = ts at eU eT tm tln ⊢
    try unfold wFor iR1
    walk_at "dl"
    refine ixD_at k rfl gp ⟨inR_of (by omega) (by omega), ?_⟩
    rw [Int.toNat_natCast]
    refine for_inv (fun (j : Nat) (Γ : Ct) => j ≤ p ∧ ∃ (t : List Rat) (e11 e12 : En), Γ = [.scr ns, .im (.list [.int a0, .int a1, .int a2, .int a3]), .im (.list (fs.map rowD)), .im (.list (ps.map fun p => PyData.int ((p : Nat) : Int))), .im (rowD b), .im (rowD w), .im (rowD t), .own ((lstU (cellD ns 3) fs ps k ++ enR p k 0 (ts.take j)).map dueD), .im (.int k), .no, .im (.list (ts.map rowD)), e11, e12, .no, .no] ∧ noOwn Γ [11] = true ∧ IsRow t ∧ t.length ≤ 18 ∧ (∃ N, N ≤ (10 * k + j + 1) * 500 ∧ Sr N t) ∧ ∀ x, ev t x = ev u x + ev (offS b f 0 (ts.take j)) x) (fun j d nx3 Γ hd hn3 hI => ?_) (fun Γ hI => ?_) ⟨Nat.zero_le _, u, e11, e12, by rw [List.take_zero]; show _ = [_, _, _, _, _, _, _, En.own ((_ ++ []).map dueD), _, _, _, _, _, _, _]; rw [List.append_nil], ?_, ru, lu, su, fun x => by rw [List.take_zero]; show _ = _ + (0 : Rat); rw [Rat.add_zero]⟩
    · obtain ⟨_, t, e11, e12, rfl, _, rt, lt, ⟨N, hN, st⟩, vt⟩ := hI
      obtain ⟨hj, rfl⟩ := rngD_at hd
      rw [Int.zero_add]
      have hjl : j < ts.length := by omega
      have gt : ts[j]? = some ts[j] := List.getElem?_eq_getElem hjl
      have gtr : (ts.map rowD)[j]? = some (rowD ts[j]) := by rw [List.getElem?_map, gt]; rfl
      obtain ⟨rT, lT, sT⟩ := tm ts[j] (List.getElem_mem hjl)
      have tkj : ts.take (j + 1) = ts.take j ++ [ts[j]] := by rw [List.take_succ, gt]; rfl
      have ltk : (ts.take j).length = j := by rw [List.length_take]; omega
      have dj := dpow (j + 1) (by omega)
      have mj := powR_mon fi.m (j + 1)
      have sj := pB _ mj dj
      have lj := lw2 (j + 1)
      have jj : (f.length - 1) * (j + 1) ≤ 3 * 10 := Nat.mul_le_mul (by omega) (by omega)
      obtain ⟨_, _, lq⟩ := quo_facts mB.row mj.row mB.ne dj
      have mq := quo_mon mB mj dj
      have dq : Dvd (quo b (powR f (j + 1))) b := ⟨powR f (j + 1), fun x => by rw [(quo_dvd mB.row mj.row mj.ne dj).2]; grind⟩
      have sq := pB _ mq dq
      have qp := mq.pos
      have k1 := mulR_len ts[j] (quo b (powR f (j + 1)))
      have sM : Sr 481 (trim (mulL ts[j] (quo b (powR f (j + 1))))) := ((sT.mul sq (k := 3) (by omega)).trim).up (by decide)
      have sb1 : (10 * k + j + 1) * 500 ≤ 51 * 500 := Nat.mul_le_mul_right _ (by omega)
      have vnew : ∀ x, ev (trim (addL t (trim (mulL ts[j] (quo b (powR f (j + 1))))))) x = ev u x + ev (offS b f 0 (ts.take (j + 1))) x := fun x => by
        rw [tkj, offS_snoc, ltk, Nat.zero_add, ev_trim, ev_add, vt, ev_trim, ev_mul]
        grind
      have i1 : (j : Int) + 1 = ((j + 1 : Nat) : Int) := by omega
      refine seq_go fun nx4 hnx4 => ?_
      walk_at "dl"
      refine ixD_at k rfl gf ?_
      rw [i1]
      refine call_ok ⟨f, 23, j + 1, rfl, by omega, by omega, by omega, by omega, ff.s, l0 _ (by omega), rfl⟩ ?_
      have dd : (b.length + 1 - (powR f (j + 1)).length) * (417 + 1) ≤ 16 * (417 + 1) := Nat.mul_le_mul_right _ (by omega)
      refine call_ok ⟨b, powR f (j + 1), 417, 417, b.length + 1 - (powR f (j + 1)).length, rfl, mB.row, mj.row, mj.ne, sB, sj, by omega, by omega, by omega, l0 _ (by omega), rfl⟩ (hnx4 _ ?_)
      refine seq_go fun nx4 hnx4 => ?_
      walk_at "dl"
      refine ixD_at j rfl gtr ?_
      refine call_ok ⟨ts[j], quo b (powR f (j + 1)), 61, 417, rfl, sT, sq, l0 _ (by decide), by omega, by omega, rfl⟩ ?_
      have ip := sr_pos st
      refine call_ok ⟨t, trim (mulL ts[j] (quo b (powR f (j + 1)))), N, 481, rfl, st.az, sM.az, ip, by decide, l0 _ (by omega), by omega, by omega, rfl⟩ (hnx4 _ ?_)
      have lnew : (trim (addL t (trim (mulL ts[j] (quo b (powR f (j + 1))))))).length ≤ 18 := by
        refine Nat.le_trans (trim_len _) ?_
        rw [addL_len]
        omega
      have snew : ∃ N, N ≤ (10 * k + (j + 1) + 1) * 500 ∧ Sr N (trim (addL t (trim (mulL ts[j] (quo b (powR f (j + 1))))))) := ⟨N + 481 + 1, by omega, (st.add sM).trim⟩
      have eE := enR_snoc p k ts[j] (ts.take j) 0
      rw [ltk, Nat.zero_add, ← tkj] at eE
      by_cases t0 : ts[j] = []
      · rw [if_neg (by rw [t0]; decide), List.append_nil] at eE
        refine if_false (fun P hP => ?_) ?_
        · walk_at "dl"
          refine ixD_at j rfl gtr ?_
          refine And.intro ⟨shaped_row _, shaped_row []⟩ ?_
          rw [eqv_nil, decide_eq_true t0]
          exact hP
        · exact hn3 _ ⟨hj, _, _, _, by rw [eE], rfl, row_trim _, lnew, snew, vnew⟩
      · have tp := List.length_pos_iff.mpr t0
        rw [if_pos tp] at eE
        refine if_true (fun P hP => ?_) ?_
        · walk_at "dl"
          refine ixD_at j rfl gtr ?_
          refine And.intro ⟨shaped_row _, shaped_row []⟩ ?_
          rw [eqv_nil, decide_eq_false t0]
          exact hP
        · walk_at "dl"
          have few := ub p ts j tln p10
          refine ixD_at k rfl gp ?_
          refine ixD_at j rfl gtr ?_
          refine And.intro few ?_
          refine hn3 _ ⟨hj, trim (addL t (trim (mulL ts[j] (quo b (powR f (j + 1)))))), .im (.int j), .im (rowD (quo b (powR f (j + 1)))), ?_, rfl, row_trim _, lnew, snew, vnew⟩
          rw [eE, ← List.append_assoc, List.map_append (l₂ := [_])]
          rfl
    · obtain ⟨_, t, e11, e12, rfl, hno2, rt, lt, ⟨N, hN, st⟩, vt⟩ := hI
      rw [rngD_length] at vt hN ⊢
      rw [← tln, List.take_length] at vt
      have hkp : 10 * k + p + 1 ≤ 10 * (k + 1) + 1 := Nat.succ_le_succ (by rw [Nat.mul_succ]; exact Nat.add_le_add_left p10 _)
      have hN2 := Nat.le_trans hN (Nat.mul_le_mul_right 500 hkp)
      have tkp : ts.take p = ts := by rw [← tln, List.take_length]
      refine hn' _ ⟨hk, t, .im (.int k), .im (.list (ts.map rowD)), e11, e12, ?_, ?_, rt, lt, ⟨N, hN2, st⟩, fun x => ?_⟩
      · rw [eU]
        rw [tkp]
        rfl
      · cases e11 with
        | own y => exact absurd hno2 (by simp [noOwn])
        | _ => rfl
      · rw [vt, vu, tk]
        unfold sum11
        rw [List.map_append, sR_app]
        have o := offS_sum mB fi.m (dpow p (Nat.le_refl _)) x ts 0 (by omega)
        rw [o]
        show _ = _ + (_ + ev (addL (mulL (psum f (tF (cellD ns 3) fs (f, p))) (quo b (powR f p))) []) x)
        rw [eT, ev_add, ev_mul, ev_nil]
        grind
    · cases e11 with
      | own y => exact absurd hno (by simp [noOwn])
      | _ => rfl
  · obtain ⟨_, u, e8, e10, e11, e12, rfl, hno, ru, lu, ⟨N, hN, su0⟩, vu⟩ := hI
    refine hnx _ ?_
    rw [rngD_length]
    rw [rngD_length] at vu hN
    have su : Sr 20500 u := su0.up (by omega)
    have tkz : (fs.zip ps).take fs.length = fs.zip ps := List.take_of_length_le (by rw [List.length_zip]; omega)
    rw [tkz] at vu
    have O := M11 u w ru rw_ vu
    have SD := sort_due I11 O
    obtain ⟨b1, _, b3⟩ := lstU_bd (x3 := cellD ns 3) I11 fs.length (Nat.le_refl _)
    -- sorted
    refine seq_go fun nx hnx => ?_
    have no4 : noOwn [En.scr ns, .im (.list [.int a0, .int a1, .int a2, .int a3]), .im (.list (fs.map rowD)), .im (natsD ps), .im (rowD b), .im (rowD w), .im (rowD u), .im (.list ((lstU (cellD ns 3) fs ps fs.length).map dueD)), e8, .no, e10, e11, e12, .no, .no] [13, 8, 11, 14] = true := by
      cases e8 with
      | own x => exact absurd hno (by simp [noOwn])
      | _ => cases e11 with
        | own x => exact absurd hno (by simp [noOwn])
        | _ => rfl
    have fin : nx [.scr ns, .im (.list [.int a0, .int a1, .int a2, .int a3]), .im (.list (fs.map rowD)), .im (natsD ps), .im (rowD b), .im (rowD w), .im (rowD u), .im (.list ((lstU (cellD ns 3) fs ps fs.length).map dueD)), e8, .im (.list (((lstV (cellD ns 3) fs b).map (toPc fs)).map tpD)), e10, e11, e12, .no, .no] := by
      refine hnx _ ?_
      have hfr : ∀ t ∈ fs, IsRow t ∧ t.length ≤ 18 ∧ Sr 417 t := fun t ht => ⟨(hi t ht).m.row, by have := (hf t ht).l4; omega, (hf t ht).s.up (by decide)⟩
      have isq : R_is_quotient py [.tuple [rowD u, rowD b]] (.ok (.bool true)) := ⟨_, rfl, .inr (.inr ⟨u, b, 20500, 18, rfl, ru, mB.row, mB.ne, mB.lead, lu, by omega, by decide, su, sB.up (by decide), l0 _ (by decide), by rw [decide_eq_true O.g]⟩)⟩
      have A : TkA py 20500 417 18 u b fs := ⟨ru, mB, su, sB, pB, lu, by omega, by decide, hfr, by omega, l0 _ (by decide), l0 _ (by decide), l0 _ (by decide)⟩
      have allr : (fs.map rowD).all isRow = true := by
        rw [List.all_map, List.all_eq_true]
        exact fun t ht => isRow_rowD (hi t ht).m.row
      walk_at "dl"
      refine call_ok (R := R_apart py) (d := .tuple [rowD (quo u b), .list ((tkL u b fs).map tpD)]) ⟨_, _, rfl, .inr (.inr ⟨⟨_, rfl, .inl ⟨fun d hd => by rw [List.mem_singleton.mp hd]; exact isq, rfl⟩⟩, allr, u, b, fs, 20500, 417, 18, rfl, A, rfl⟩)⟩ ?_
      rw [O.q, O.t]
      refine And.intro ⟨shaped_ap _ _, shaped_ap _ _⟩ ?_
      rw [eqv_ap]
    unfold wFrz lLc iLst
    walk_at "dl"
    refine ⟨⟨?_, ?_, ?_⟩, no4, ?_⟩
    · intro d hd d' hd'
      obtain ⟨a, _, rfl⟩ := List.mem_map.mp hd
      obtain ⟨c, _, rfl⟩ := List.mem_map.mp hd'
      exact alike_due a c
    · refine .inl fun d hd => ?_
      obtain ⟨a, _, rfl⟩ := List.mem_map.mp hd
      exact ⟨_, _, rfl⟩
    · intro d hd
      obtain ⟨a, _, rfl⟩ := List.mem_map.mp hd
      have := (Shp.tup (n := 3) (xs := [PyData.int a.1, .int a.2.1, .int a.2.2.1, rowD a.2.2.2]) fun d hd => by
        simp only [List.mem_cons, List.not_mem_nil, or_false] at hd
        rcases hd with rfl | rfl | rfl | rfl
        · exact .int _ _
        · exact .int _ _
        · exact .int _ _
        · exact ⟨(shp_row _).1, Nat.le_trans (shp_row _).2 (by decide)⟩).2
      exact Nat.le_trans this (by decide)
    · rw [SD]
      have mU : ∀ a ∈ lstV (cellD ns 3) fs b, a.2.1 < fs.length := fun a ha => (b1 a ((O.m a).mp ha)).1
      have lV : (lstV (cellD ns 3) fs b).length ≤ 100 := by
        have := congrArg List.length SD
        rw [List.length_mergeSort, List.length_map, List.length_map] at this
        omega
      refine lc_get _ (((lstV (cellD ns 3) fs b).map (toPc fs)).map tpD) [] (by rw [List.length_map, List.length_map, List.length_map]) (fun i d y hd hy Q' R hQ => ?_) (by rw [List.length_map]; exact line_le (by show 0 + _ ≤ _; omega)) ?_
      · rw [List.getElem?_map] at hd
        obtain ⟨a, ha, rfl⟩ := Option.map_eq_some_iff.mp hd
        rw [List.getElem?_map, List.getElem?_map, ha] at hy
        cases hy
        have hlt := mU a (List.mem_of_getElem? ha)
        have gr : (fs.map rowD)[a.2.1]? = some (rowD (fs.getD a.2.1 [])) := by
          rw [List.getElem?_map, List.getD_eq_getElem?_getD, List.getElem?_eq_getElem hlt]; rfl
        unfold tYesD
        show eTup (aCons (eVar 14) (aCons (eOp dIx (eVar 2) (eVar 8)) (aCons (eVar 11) aNil))) [En.scr ns, .im (.list [.int a0, .int a1, .int a2, .int a3]), .im (.list (fs.map rowD)), .im (natsD ps), .im (rowD b), .im (rowD w), .im (rowD u), .im (.list ((lstU (cellD ns 3) fs ps fs.length).map dueD)), .im (.int a.2.1), .no, e10, .im (.int a.2.2.1), e12, .im (.int a.1), .im (rowD a.2.2.2)] Q'
        walk_at "dl"
        exact ixD_at a.2.1 rfl gr hQ
      · rw [List.nil_append]
        exact fin
end DL

set_option Elab.async false
set_option linter.all false
set_option maxRecDepth 100000
set_option maxHeartbeats 2000000
namespace DL
open PySem PySem.Spec L2
theorem len_is_row (py : Prop) (ds : List D) (r : Res) (h : R_is_row py ds r) : ds.length = 1 := by
  first | (obtain ⟨_, rfl, _⟩ := h; rfl) | (obtain ⟨_, _, rfl, _⟩ := h; rfl) | (obtain ⟨_, _, _, rfl, _⟩ := h; rfl) | (obtain ⟨_, _, _, _, rfl, _⟩ := h; rfl) | (obtain ⟨_, _, _, _, _, rfl, _⟩ := h; rfl) | (obtain ⟨_, _, _, _, _, _, rfl, _⟩ := h; rfl) | (obtain ⟨_, _, _, _, _, _, _, rfl, _⟩ := h; rfl) | (obtain ⟨_, _, _, _, _, _, _, _, rfl, _⟩ := h; rfl) | (obtain ⟨_, h2, _⟩ := h; rcases h2 with rfl | rfl <;> rfl)
theorem len_need_rows (py : Prop) (ds : List D) (r : Res) (h : R_need_rows py ds r) : ds.length = 1 := by
  first | (obtain ⟨_, rfl, _⟩ := h; rfl) | (obtain ⟨_, _, rfl, _⟩ := h; rfl) | (obtain ⟨_, _, _, rfl, _⟩ := h; rfl) | (obtain ⟨_, _, _, _, rfl, _⟩ := h; rfl) | (obtain ⟨_, _, _, _, _, rfl, _⟩ := h; rfl) | (obtain ⟨_, _, _, _, _, _, rfl, _⟩ := h; rfl) | (obtain ⟨_, _, _, _, _, _, _, rfl, _⟩ := h; rfl) | (obtain ⟨_, _, _, _, _, _, _, _, rfl, _⟩ := h; rfl) | (obtain ⟨_, h2, _⟩ := h; rcases h2 with rfl | rfl <;> rfl)
theorem len_trimmed (py : Prop) (ds : List D) (r : Res) (h : R_trimmed py ds r) : ds.length = 1 := by
  first | (obtain ⟨_, rfl, _⟩ := h; rfl) | (obtain ⟨_, _, rfl, _⟩ := h; rfl) | (obtain ⟨_, _, _, rfl, _⟩ := h; rfl) | (obtain ⟨_, _, _, _, rfl, _⟩ := h; rfl) | (obtain ⟨_, _, _, _, _, rfl, _⟩ := h; rfl) | (obtain ⟨_, _, _, _, _, _, rfl, _⟩ := h; rfl) | (obtain ⟨_, _, _, _, _, _, _, rfl, _⟩ := h; rfl) | (obtain ⟨_, _, _, _, _, _, _, _, rfl, _⟩ := h; rfl) | (obtain ⟨_, h2, _⟩ := h; rcases h2 with rfl | rfl <;> rfl)
theorem len_scale (py : Prop) (ds : List D) (r : Res) (h : R_scale py ds r) : ds.length = 2 := by
  first | (obtain ⟨_, rfl, _⟩ := h; rfl) | (obtain ⟨_, _, rfl, _⟩ := h; rfl) | (obtain ⟨_, _, _, rfl, _⟩ := h; rfl) | (obtain ⟨_, _, _, _, rfl, _⟩ := h; rfl) | (obtain ⟨_, _, _, _, _, rfl, _⟩ := h; rfl) | (obtain ⟨_, _, _, _, _, _, rfl, _⟩ := h; rfl) | (obtain ⟨_, _, _, _, _, _, _, rfl, _⟩ := h; rfl) | (obtain ⟨_, _, _, _, _, _, _, _, rfl, _⟩ := h; rfl) | (obtain ⟨_, h2, _⟩ := h; rcases h2 with rfl | rfl <;> rfl)
theorem len_add (py : Prop) (ds : List D) (r : Res) (h : R_add py ds r) : ds.length = 2 := by
  first | (obtain ⟨_, rfl, _⟩ := h; rfl) | (obtain ⟨_, _, rfl, _⟩ := h; rfl) | (obtain ⟨_, _, _, rfl, _⟩ := h; rfl) | (obtain ⟨_, _, _, _, rfl, _⟩ := h; rfl) | (obtain ⟨_, _, _, _, _, rfl, _⟩ := h; rfl) | (obtain ⟨_, _, _, _, _, _, rfl, _⟩ := h; rfl) | (obtain ⟨_, _, _, _, _, _, _, rfl, _⟩ := h; rfl) | (obtain ⟨_, _, _, _, _, _, _, _, rfl, _⟩ := h; rfl) | (obtain ⟨_, h2, _⟩ := h; rcases h2 with rfl | rfl <;> rfl)
theorem len_multiply (py : Prop) (ds : List D) (r : Res) (h : R_multiply py ds r) : ds.length = 2 := by
  first | (obtain ⟨_, rfl, _⟩ := h; rfl) | (obtain ⟨_, _, rfl, _⟩ := h; rfl) | (obtain ⟨_, _, _, rfl, _⟩ := h; rfl) | (obtain ⟨_, _, _, _, rfl, _⟩ := h; rfl) | (obtain ⟨_, _, _, _, _, rfl, _⟩ := h; rfl) | (obtain ⟨_, _, _, _, _, _, rfl, _⟩ := h; rfl) | (obtain ⟨_, _, _, _, _, _, _, rfl, _⟩ := h; rfl) | (obtain ⟨_, _, _, _, _, _, _, _, rfl, _⟩ := h; rfl) | (obtain ⟨_, h2, _⟩ := h; rcases h2 with rfl | rfl <;> rfl)
theorem len_divide (py : Prop) (ds : List D) (r : Res) (h : R_divide py ds r) : ds.length = 2 := by
  first | (obtain ⟨_, rfl, _⟩ := h; rfl) | (obtain ⟨_, _, rfl, _⟩ := h; rfl) | (obtain ⟨_, _, _, rfl, _⟩ := h; rfl) | (obtain ⟨_, _, _, _, rfl, _⟩ := h; rfl) | (obtain ⟨_, _, _, _, _, rfl, _⟩ := h; rfl) | (obtain ⟨_, _, _, _, _, _, rfl, _⟩ := h; rfl) | (obtain ⟨_, _, _, _, _, _, _, rfl, _⟩ := h; rfl) | (obtain ⟨_, _, _, _, _, _, _, _, rfl, _⟩ := h; rfl) | (obtain ⟨_, h2, _⟩ := h; rcases h2 with rfl | rfl <;> rfl)
theorem len_slope (py : Prop) (ds : List D) (r : Res) (h : R_slope py ds r) : ds.length = 1 := by
  first | (obtain ⟨_, rfl, _⟩ := h; rfl) | (obtain ⟨_, _, rfl, _⟩ := h; rfl) | (obtain ⟨_, _, _, rfl, _⟩ := h; rfl) | (obtain ⟨_, _, _, _, rfl, _⟩ := h; rfl) | (obtain ⟨_, _, _, _, _, rfl, _⟩ := h; rfl) | (obtain ⟨_, _, _, _, _, _, rfl, _⟩ := h; rfl) | (obtain ⟨_, _, _, _, _, _, _, rfl, _⟩ := h; rfl) | (obtain ⟨_, _, _, _, _, _, _, _, rfl, _⟩ := h; rfl) | (obtain ⟨_, h2, _⟩ := h; rcases h2 with rfl | rfl <;> rfl)
theorem len_shared (py : Prop) (ds : List D) (r : Res) (h : R_shared py ds r) : ds.length = 2 := by
  first | (obtain ⟨_, rfl, _⟩ := h; rfl) | (obtain ⟨_, _, rfl, _⟩ := h; rfl) | (obtain ⟨_, _, _, rfl, _⟩ := h; rfl) | (obtain ⟨_, _, _, _, rfl, _⟩ := h; rfl) | (obtain ⟨_, _, _, _, _, rfl, _⟩ := h; rfl) | (obtain ⟨_, _, _, _, _, _, rfl, _⟩ := h; rfl) | (obtain ⟨_, _, _, _, _, _, _, rfl, _⟩ := h; rfl) | (obtain ⟨_, _, _, _, _, _, _, _, rfl, _⟩ := h; rfl) | (obtain ⟨_, h2, _⟩ := h; rcases h2 with rfl | rfl <;> rfl)
theorem len_led (py : Prop) (ds : List D) (r : Res) (h : R_led py ds r) : ds.length = 1 := by
  first | (obtain ⟨_, rfl, _⟩ := h; rfl) | (obtain ⟨_, _, rfl, _⟩ := h; rfl) | (obtain ⟨_, _, _, rfl, _⟩ := h; rfl) | (obtain ⟨_, _, _, _, rfl, _⟩ := h; rfl) | (obtain ⟨_, _, _, _, _, rfl, _⟩ := h; rfl) | (obtain ⟨_, _, _, _, _, _, rfl, _⟩ := h; rfl) | (obtain ⟨_, _, _, _, _, _, _, rfl, _⟩ := h; rfl) | (obtain ⟨_, _, _, _, _, _, _, _, rfl, _⟩ := h; rfl) | (obtain ⟨_, h2, _⟩ := h; rcases h2 with rfl | rfl <;> rfl)
theorem len_greatest (py : Prop) (ds : List D) (r : Res) (h : R_greatest py ds r) : ds.length = 2 := by
  first | (obtain ⟨_, rfl, _⟩ := h; rfl) | (obtain ⟨_, _, rfl, _⟩ := h; rfl) | (obtain ⟨_, _, _, rfl, _⟩ := h; rfl) | (obtain ⟨_, _, _, _, rfl, _⟩ := h; rfl) | (obtain ⟨_, _, _, _, _, rfl, _⟩ := h; rfl) | (obtain ⟨_, _, _, _, _, _, rfl, _⟩ := h; rfl) | (obtain ⟨_, _, _, _, _, _, _, rfl, _⟩ := h; rfl) | (obtain ⟨_, _, _, _, _, _, _, _, rfl, _⟩ := h; rfl) | (obtain ⟨_, h2, _⟩ := h; rcases h2 with rfl | rfl <;> rfl)
theorem len_is_apart (py : Prop) (ds : List D) (r : Res) (h : R_is_apart py ds r) : ds.length = 2 := by
  first | (obtain ⟨_, rfl, _⟩ := h; rfl) | (obtain ⟨_, _, rfl, _⟩ := h; rfl) | (obtain ⟨_, _, _, rfl, _⟩ := h; rfl) | (obtain ⟨_, _, _, _, rfl, _⟩ := h; rfl) | (obtain ⟨_, _, _, _, _, rfl, _⟩ := h; rfl) | (obtain ⟨_, _, _, _, _, _, rfl, _⟩ := h; rfl) | (obtain ⟨_, _, _, _, _, _, _, rfl, _⟩ := h; rfl) | (obtain ⟨_, _, _, _, _, _, _, _, rfl, _⟩ := h; rfl) | (obtain ⟨_, h2, _⟩ := h; rcases h2 with rfl | rfl <;> rfl)
theorem len_is_quotient (py : Prop) (ds : List D) (r : Res) (h : R_is_quotient py ds r) : ds.length = 1 := by
  first | (obtain ⟨_, rfl, _⟩ := h; rfl) | (obtain ⟨_, _, rfl, _⟩ := h; rfl) | (obtain ⟨_, _, _, rfl, _⟩ := h; rfl) | (obtain ⟨_, _, _, _, rfl, _⟩ := h; rfl) | (obtain ⟨_, _, _, _, _, rfl, _⟩ := h; rfl) | (obtain ⟨_, _, _, _, _, _, rfl, _⟩ := h; rfl) | (obtain ⟨_, _, _, _, _, _, _, rfl, _⟩ := h; rfl) | (obtain ⟨_, _, _, _, _, _, _, _, rfl, _⟩ := h; rfl) | (obtain ⟨_, h2, _⟩ := h; rcases h2 with rfl | rfl <;> rfl)
theorem len_need_quotients (py : Prop) (ds : List D) (r : Res) (h : R_need_quotients py ds r) : ds.length = 1 := by
  first | (obtain ⟨_, rfl, _⟩ := h; rfl) | (obtain ⟨_, _, rfl, _⟩ := h; rfl) | (obtain ⟨_, _, _, rfl, _⟩ := h; rfl) | (obtain ⟨_, _, _, _, rfl, _⟩ := h; rfl) | (obtain ⟨_, _, _, _, _, rfl, _⟩ := h; rfl) | (obtain ⟨_, _, _, _, _, _, rfl, _⟩ := h; rfl) | (obtain ⟨_, _, _, _, _, _, _, rfl, _⟩ := h; rfl) | (obtain ⟨_, _, _, _, _, _, _, _, rfl, _⟩ := h; rfl) | (obtain ⟨_, h2, _⟩ := h; rcases h2 with rfl | rfl <;> rfl)
theorem len_powered (py : Prop) (ds : List D) (r : Res) (h : R_powered py ds r) : ds.length = 2 := by
  first | (obtain ⟨_, rfl, _⟩ := h; rfl) | (obtain ⟨_, _, rfl, _⟩ := h; rfl) | (obtain ⟨_, _, _, rfl, _⟩ := h; rfl) | (obtain ⟨_, _, _, _, rfl, _⟩ := h; rfl) | (obtain ⟨_, _, _, _, _, rfl, _⟩ := h; rfl) | (obtain ⟨_, _, _, _, _, _, rfl, _⟩ := h; rfl) | (obtain ⟨_, _, _, _, _, _, _, rfl, _⟩ := h; rfl) | (obtain ⟨_, _, _, _, _, _, _, _, rfl, _⟩ := h; rfl) | (obtain ⟨_, h2, _⟩ := h; rcases h2 with rfl | rfl <;> rfl)
theorem len_by_powers (py : Prop) (ds : List D) (r : Res) (h : R_by_powers py ds r) : ds.length = 1 := by
  first | (obtain ⟨_, rfl, _⟩ := h; rfl) | (obtain ⟨_, _, rfl, _⟩ := h; rfl) | (obtain ⟨_, _, _, rfl, _⟩ := h; rfl) | (obtain ⟨_, _, _, _, rfl, _⟩ := h; rfl) | (obtain ⟨_, _, _, _, _, rfl, _⟩ := h; rfl) | (obtain ⟨_, _, _, _, _, _, rfl, _⟩ := h; rfl) | (obtain ⟨_, _, _, _, _, _, _, rfl, _⟩ := h; rfl) | (obtain ⟨_, _, _, _, _, _, _, _, rfl, _⟩ := h; rfl) | (obtain ⟨_, h2, _⟩ := h; rcases h2 with rfl | rfl <;> rfl)
theorem len_cut (py : Prop) (ds : List D) (r : Res) (h : R_cut py ds r) : ds.length = 2 := by
  first | (obtain ⟨_, rfl, _⟩ := h; rfl) | (obtain ⟨_, _, rfl, _⟩ := h; rfl) | (obtain ⟨_, _, _, rfl, _⟩ := h; rfl) | (obtain ⟨_, _, _, _, rfl, _⟩ := h; rfl) | (obtain ⟨_, _, _, _, _, rfl, _⟩ := h; rfl) | (obtain ⟨_, _, _, _, _, _, rfl, _⟩ := h; rfl) | (obtain ⟨_, _, _, _, _, _, _, rfl, _⟩ := h; rfl) | (obtain ⟨_, _, _, _, _, _, _, _, rfl, _⟩ := h; rfl) | (obtain ⟨_, h2, _⟩ := h; rcases h2 with rfl | rfl <;> rfl)
theorem len_parts_of (py : Prop) (ds : List D) (r : Res) (h : R_parts_of py ds r) : ds.length = 2 := by
  first | (obtain ⟨_, rfl, _⟩ := h; rfl) | (obtain ⟨_, _, rfl, _⟩ := h; rfl) | (obtain ⟨_, _, _, rfl, _⟩ := h; rfl) | (obtain ⟨_, _, _, _, rfl, _⟩ := h; rfl) | (obtain ⟨_, _, _, _, _, rfl, _⟩ := h; rfl) | (obtain ⟨_, _, _, _, _, _, rfl, _⟩ := h; rfl) | (obtain ⟨_, _, _, _, _, _, _, rfl, _⟩ := h; rfl) | (obtain ⟨_, _, _, _, _, _, _, _, rfl, _⟩ := h; rfl) | (obtain ⟨_, h2, _⟩ := h; rcases h2 with rfl | rfl <;> rfl)
theorem len_over_part (py : Prop) (ds : List D) (r : Res) (h : R_over_part py ds r) : ds.length = 3 := by
  first | (obtain ⟨_, rfl, _⟩ := h; rfl) | (obtain ⟨_, _, rfl, _⟩ := h; rfl) | (obtain ⟨_, _, _, rfl, _⟩ := h; rfl) | (obtain ⟨_, _, _, _, rfl, _⟩ := h; rfl) | (obtain ⟨_, _, _, _, _, rfl, _⟩ := h; rfl) | (obtain ⟨_, _, _, _, _, _, rfl, _⟩ := h; rfl) | (obtain ⟨_, _, _, _, _, _, _, rfl, _⟩ := h; rfl) | (obtain ⟨_, _, _, _, _, _, _, _, rfl, _⟩ := h; rfl) | (obtain ⟨_, h2, _⟩ := h; rcases h2 with rfl | rfl <;> rfl)
theorem len_tops_over (py : Prop) (ds : List D) (r : Res) (h : R_tops_over py ds r) : ds.length = 4 := by
  first | (obtain ⟨_, rfl, _⟩ := h; rfl) | (obtain ⟨_, _, rfl, _⟩ := h; rfl) | (obtain ⟨_, _, _, rfl, _⟩ := h; rfl) | (obtain ⟨_, _, _, _, rfl, _⟩ := h; rfl) | (obtain ⟨_, _, _, _, _, rfl, _⟩ := h; rfl) | (obtain ⟨_, _, _, _, _, _, rfl, _⟩ := h; rfl) | (obtain ⟨_, _, _, _, _, _, _, rfl, _⟩ := h; rfl) | (obtain ⟨_, _, _, _, _, _, _, _, rfl, _⟩ := h; rfl) | (obtain ⟨_, h2, _⟩ := h; rcases h2 with rfl | rfl <;> rfl)
theorem len_taken_apart (py : Prop) (ds : List D) (r : Res) (h : R_taken_apart py ds r) : ds.length = 2 := by
  first | (obtain ⟨_, rfl, _⟩ := h; rfl) | (obtain ⟨_, _, rfl, _⟩ := h; rfl) | (obtain ⟨_, _, _, rfl, _⟩ := h; rfl) | (obtain ⟨_, _, _, _, rfl, _⟩ := h; rfl) | (obtain ⟨_, _, _, _, _, rfl, _⟩ := h; rfl) | (obtain ⟨_, _, _, _, _, _, rfl, _⟩ := h; rfl) | (obtain ⟨_, _, _, _, _, _, _, rfl, _⟩ := h; rfl) | (obtain ⟨_, _, _, _, _, _, _, _, rfl, _⟩ := h; rfl) | (obtain ⟨_, h2, _⟩ := h; rcases h2 with rfl | rfl <;> rfl)
theorem len_apart (py : Prop) (ds : List D) (r : Res) (h : R_apart py ds r) : ds.length = 2 := by
  first | (obtain ⟨_, rfl, _⟩ := h; rfl) | (obtain ⟨_, _, rfl, _⟩ := h; rfl) | (obtain ⟨_, _, _, rfl, _⟩ := h; rfl) | (obtain ⟨_, _, _, _, rfl, _⟩ := h; rfl) | (obtain ⟨_, _, _, _, _, rfl, _⟩ := h; rfl) | (obtain ⟨_, _, _, _, _, _, rfl, _⟩ := h; rfl) | (obtain ⟨_, _, _, _, _, _, _, rfl, _⟩ := h; rfl) | (obtain ⟨_, _, _, _, _, _, _, _, rfl, _⟩ := h; rfl) | (obtain ⟨_, h2, _⟩ := h; rcases h2 with rfl | rfl <;> rfl)
theorem len__law_sum (py : Prop) (ds : List D) (r : Res) (h : R__law_sum py ds r) : ds.length = 2 := by
  first | (obtain ⟨_, rfl, _⟩ := h; rfl) | (obtain ⟨_, _, rfl, _⟩ := h; rfl) | (obtain ⟨_, _, _, rfl, _⟩ := h; rfl) | (obtain ⟨_, _, _, _, rfl, _⟩ := h; rfl) | (obtain ⟨_, _, _, _, _, rfl, _⟩ := h; rfl) | (obtain ⟨_, _, _, _, _, _, rfl, _⟩ := h; rfl) | (obtain ⟨_, _, _, _, _, _, _, rfl, _⟩ := h; rfl) | (obtain ⟨_, _, _, _, _, _, _, _, rfl, _⟩ := h; rfl) | (obtain ⟨_, h2, _⟩ := h; rcases h2 with rfl | rfl <;> rfl)
theorem len__law_product (py : Prop) (ds : List D) (r : Res) (h : R__law_product py ds r) : ds.length = 2 := by
  first | (obtain ⟨_, rfl, _⟩ := h; rfl) | (obtain ⟨_, _, rfl, _⟩ := h; rfl) | (obtain ⟨_, _, _, rfl, _⟩ := h; rfl) | (obtain ⟨_, _, _, _, rfl, _⟩ := h; rfl) | (obtain ⟨_, _, _, _, _, rfl, _⟩ := h; rfl) | (obtain ⟨_, _, _, _, _, _, rfl, _⟩ := h; rfl) | (obtain ⟨_, _, _, _, _, _, _, rfl, _⟩ := h; rfl) | (obtain ⟨_, _, _, _, _, _, _, _, rfl, _⟩ := h; rfl) | (obtain ⟨_, h2, _⟩ := h; rcases h2 with rfl | rfl <;> rfl)
theorem len__law_trim (py : Prop) (ds : List D) (r : Res) (h : R__law_trim py ds r) : ds.length = 1 := by
  first | (obtain ⟨_, rfl, _⟩ := h; rfl) | (obtain ⟨_, _, rfl, _⟩ := h; rfl) | (obtain ⟨_, _, _, rfl, _⟩ := h; rfl) | (obtain ⟨_, _, _, _, rfl, _⟩ := h; rfl) | (obtain ⟨_, _, _, _, _, rfl, _⟩ := h; rfl) | (obtain ⟨_, _, _, _, _, _, rfl, _⟩ := h; rfl) | (obtain ⟨_, _, _, _, _, _, _, rfl, _⟩ := h; rfl) | (obtain ⟨_, _, _, _, _, _, _, _, rfl, _⟩ := h; rfl) | (obtain ⟨_, h2, _⟩ := h; rcases h2 with rfl | rfl <;> rfl)
theorem len__law_plus (py : Prop) (ds : List D) (r : Res) (h : R__law_plus py ds r) : ds.length = 2 := by
  first | (obtain ⟨_, rfl, _⟩ := h; rfl) | (obtain ⟨_, _, rfl, _⟩ := h; rfl) | (obtain ⟨_, _, _, rfl, _⟩ := h; rfl) | (obtain ⟨_, _, _, _, rfl, _⟩ := h; rfl) | (obtain ⟨_, _, _, _, _, rfl, _⟩ := h; rfl) | (obtain ⟨_, _, _, _, _, _, rfl, _⟩ := h; rfl) | (obtain ⟨_, _, _, _, _, _, _, rfl, _⟩ := h; rfl) | (obtain ⟨_, _, _, _, _, _, _, _, rfl, _⟩ := h; rfl) | (obtain ⟨_, h2, _⟩ := h; rcases h2 with rfl | rfl <;> rfl)
theorem len__law_scale (py : Prop) (ds : List D) (r : Res) (h : R__law_scale py ds r) : ds.length = 2 := by
  first | (obtain ⟨_, rfl, _⟩ := h; rfl) | (obtain ⟨_, _, rfl, _⟩ := h; rfl) | (obtain ⟨_, _, _, rfl, _⟩ := h; rfl) | (obtain ⟨_, _, _, _, rfl, _⟩ := h; rfl) | (obtain ⟨_, _, _, _, _, rfl, _⟩ := h; rfl) | (obtain ⟨_, _, _, _, _, _, rfl, _⟩ := h; rfl) | (obtain ⟨_, _, _, _, _, _, _, rfl, _⟩ := h; rfl) | (obtain ⟨_, _, _, _, _, _, _, _, rfl, _⟩ := h; rfl) | (obtain ⟨_, h2, _⟩ := h; rcases h2 with rfl | rfl <;> rfl)
theorem len__law_times (py : Prop) (ds : List D) (r : Res) (h : R__law_times py ds r) : ds.length = 2 := by
  first | (obtain ⟨_, rfl, _⟩ := h; rfl) | (obtain ⟨_, _, rfl, _⟩ := h; rfl) | (obtain ⟨_, _, _, rfl, _⟩ := h; rfl) | (obtain ⟨_, _, _, _, rfl, _⟩ := h; rfl) | (obtain ⟨_, _, _, _, _, rfl, _⟩ := h; rfl) | (obtain ⟨_, _, _, _, _, _, rfl, _⟩ := h; rfl) | (obtain ⟨_, _, _, _, _, _, _, rfl, _⟩ := h; rfl) | (obtain ⟨_, _, _, _, _, _, _, _, rfl, _⟩ := h; rfl) | (obtain ⟨_, h2, _⟩ := h; rcases h2 with rfl | rfl <;> rfl)
theorem len__law_power (py : Prop) (ds : List D) (r : Res) (h : R__law_power py ds r) : ds.length = 2 := by
  first | (obtain ⟨_, rfl, _⟩ := h; rfl) | (obtain ⟨_, _, rfl, _⟩ := h; rfl) | (obtain ⟨_, _, _, rfl, _⟩ := h; rfl) | (obtain ⟨_, _, _, _, rfl, _⟩ := h; rfl) | (obtain ⟨_, _, _, _, _, rfl, _⟩ := h; rfl) | (obtain ⟨_, _, _, _, _, _, rfl, _⟩ := h; rfl) | (obtain ⟨_, _, _, _, _, _, _, rfl, _⟩ := h; rfl) | (obtain ⟨_, _, _, _, _, _, _, _, rfl, _⟩ := h; rfl) | (obtain ⟨_, h2, _⟩ := h; rcases h2 with rfl | rfl <;> rfl)
theorem len__law_divide (py : Prop) (ds : List D) (r : Res) (h : R__law_divide py ds r) : ds.length = 2 := by
  first | (obtain ⟨_, rfl, _⟩ := h; rfl) | (obtain ⟨_, _, rfl, _⟩ := h; rfl) | (obtain ⟨_, _, _, rfl, _⟩ := h; rfl) | (obtain ⟨_, _, _, _, rfl, _⟩ := h; rfl) | (obtain ⟨_, _, _, _, _, rfl, _⟩ := h; rfl) | (obtain ⟨_, _, _, _, _, _, rfl, _⟩ := h; rfl) | (obtain ⟨_, _, _, _, _, _, _, rfl, _⟩ := h; rfl) | (obtain ⟨_, _, _, _, _, _, _, _, rfl, _⟩ := h; rfl) | (obtain ⟨_, h2, _⟩ := h; rcases h2 with rfl | rfl <;> rfl)
theorem len__law_row_by (py : Prop) (ds : List D) (r : Res) (h : R__law_row_by py ds r) : ds.length = 2 := by
  first | (obtain ⟨_, rfl, _⟩ := h; rfl) | (obtain ⟨_, _, rfl, _⟩ := h; rfl) | (obtain ⟨_, _, _, rfl, _⟩ := h; rfl) | (obtain ⟨_, _, _, _, rfl, _⟩ := h; rfl) | (obtain ⟨_, _, _, _, _, rfl, _⟩ := h; rfl) | (obtain ⟨_, _, _, _, _, _, rfl, _⟩ := h; rfl) | (obtain ⟨_, _, _, _, _, _, _, rfl, _⟩ := h; rfl) | (obtain ⟨_, _, _, _, _, _, _, _, rfl, _⟩ := h; rfl) | (obtain ⟨_, h2, _⟩ := h; rcases h2 with rfl | rfl <;> rfl)
theorem len__law_factors (py : Prop) (ds : List D) (r : Res) (h : R__law_factors py ds r) : ds.length = 2 := by
  first | (obtain ⟨_, rfl, _⟩ := h; rfl) | (obtain ⟨_, _, rfl, _⟩ := h; rfl) | (obtain ⟨_, _, _, rfl, _⟩ := h; rfl) | (obtain ⟨_, _, _, _, rfl, _⟩ := h; rfl) | (obtain ⟨_, _, _, _, _, rfl, _⟩ := h; rfl) | (obtain ⟨_, _, _, _, _, _, rfl, _⟩ := h; rfl) | (obtain ⟨_, _, _, _, _, _, _, rfl, _⟩ := h; rfl) | (obtain ⟨_, _, _, _, _, _, _, _, rfl, _⟩ := h; rfl) | (obtain ⟨_, h2, _⟩ := h; rcases h2 with rfl | rfl <;> rfl)
theorem len__law_powers (py : Prop) (ds : List D) (r : Res) (h : R__law_powers py ds r) : ds.length = 2 := by
  first | (obtain ⟨_, rfl, _⟩ := h; rfl) | (obtain ⟨_, _, rfl, _⟩ := h; rfl) | (obtain ⟨_, _, _, rfl, _⟩ := h; rfl) | (obtain ⟨_, _, _, _, rfl, _⟩ := h; rfl) | (obtain ⟨_, _, _, _, _, rfl, _⟩ := h; rfl) | (obtain ⟨_, _, _, _, _, _, rfl, _⟩ := h; rfl) | (obtain ⟨_, _, _, _, _, _, _, rfl, _⟩ := h; rfl) | (obtain ⟨_, _, _, _, _, _, _, _, rfl, _⟩ := h; rfl) | (obtain ⟨_, h2, _⟩ := h; rcases h2 with rfl | rfl <;> rfl)
theorem len__law_many (py : Prop) (ds : List D) (r : Res) (h : R__law_many py ds r) : ds.length = 1 := by
  first | (obtain ⟨_, rfl, _⟩ := h; rfl) | (obtain ⟨_, _, rfl, _⟩ := h; rfl) | (obtain ⟨_, _, _, rfl, _⟩ := h; rfl) | (obtain ⟨_, _, _, _, rfl, _⟩ := h; rfl) | (obtain ⟨_, _, _, _, _, rfl, _⟩ := h; rfl) | (obtain ⟨_, _, _, _, _, _, rfl, _⟩ := h; rfl) | (obtain ⟨_, _, _, _, _, _, _, rfl, _⟩ := h; rfl) | (obtain ⟨_, _, _, _, _, _, _, _, rfl, _⟩ := h; rfl) | (obtain ⟨_, h2, _⟩ := h; rcases h2 with rfl | rfl <;> rfl)
theorem len__law_bottom (py : Prop) (ds : List D) (r : Res) (h : R__law_bottom py ds r) : ds.length = 2 := by
  first | (obtain ⟨_, rfl, _⟩ := h; rfl) | (obtain ⟨_, _, rfl, _⟩ := h; rfl) | (obtain ⟨_, _, _, rfl, _⟩ := h; rfl) | (obtain ⟨_, _, _, _, rfl, _⟩ := h; rfl) | (obtain ⟨_, _, _, _, _, rfl, _⟩ := h; rfl) | (obtain ⟨_, _, _, _, _, _, rfl, _⟩ := h; rfl) | (obtain ⟨_, _, _, _, _, _, _, rfl, _⟩ := h; rfl) | (obtain ⟨_, _, _, _, _, _, _, _, rfl, _⟩ := h; rfl) | (obtain ⟨_, h2, _⟩ := h; rcases h2 with rfl | rfl <;> rfl)
theorem len__law_tops (py : Prop) (ds : List D) (r : Res) (h : R__law_tops py ds r) : ds.length = 3 := by
  first | (obtain ⟨_, rfl, _⟩ := h; rfl) | (obtain ⟨_, _, rfl, _⟩ := h; rfl) | (obtain ⟨_, _, _, rfl, _⟩ := h; rfl) | (obtain ⟨_, _, _, _, rfl, _⟩ := h; rfl) | (obtain ⟨_, _, _, _, _, rfl, _⟩ := h; rfl) | (obtain ⟨_, _, _, _, _, _, rfl, _⟩ := h; rfl) | (obtain ⟨_, _, _, _, _, _, _, rfl, _⟩ := h; rfl) | (obtain ⟨_, _, _, _, _, _, _, _, rfl, _⟩ := h; rfl) | (obtain ⟨_, h2, _⟩ := h; rcases h2 with rfl | rfl <;> rfl)
section
variable {P : Program} {w : World} {K : PySem.W.Frag} {mg : Str → Option Value} {base : Heap} {cl : Nat → Addr} {py : Prop}
def topS (i : Nat) : Stmt := PySem.Challenge.pw_fractionparts_k11_whole_built_and_apart.main.body.getD i (.Pass ⟨0, 0, 0, 0⟩)
abbrev s_divisor : Stmt := topS 6
theorem sc_divisor : FnScope ["one", "other"] ["one", "other"] (defScope s_divisor) := ⟨rfl, rfl, rfl, by decide +kernel, rfl, by decide +kernel, by decide +kernel⟩
theorem fn_divisor {f : Addr} {fd : FuncData} (F : Fun K "divisor" "divisor" s_divisor f fd) (Z : Bi mg) (hpy : py → PyOk P w K mg base) : FnOk P w K mg base (L2.CX P w) 34 f fd ["one", "other"] (spR K cl (R_divisor py)) :=
  mk_fn F sc_divisor (len_divisor py) <| fun f cdv A outer s H E F' hr ps hcl hB => by
    subst hcl
    exact ⟨w_divisor F'.Ex py, (ss_cons (s1_while hB (et_gt (ee_var 0) ee_int)
  (ss_one (s1_par 0 1 (ea_cons (ee_mod (ee_var 1) (ee_var 0)) (ea_cons (ee_var 0) ea_nil)))))
  (ss_one (s1_ret (ee_var 1)))),
      fun ds r h e => by rw [e]; exact pure_divisor py ds r h⟩

abbrev s_fraction : Stmt := topS 7
theorem sc_fraction : FnScope ["top", "bottom", "by"] ["top", "bottom"] (defScope s_fraction) := ⟨rfl, rfl, rfl, by decide +kernel, rfl, by decide +kernel, by decide +kernel⟩
theorem fn_fraction {f : Addr} {fd : FuncData} (F : Fun K "fraction" "fraction" s_fraction f fd) (Z : Bi mg) (hpy : py → PyOk P w K mg base) (G_divisor : Cl P w K mg base cl 34 "divisor" (R_divisor py)) (x_Nought : Xc K mg "Nought" (cl 0)) : FnOk P w K mg base (L2.CX P w) 35 f fd ["top", "bottom"] (spR K cl (R_fraction py)) :=
  mk_fn F sc_fraction (len_fraction py) <| fun f cdv A outer s H E F' hr ps hcl hB => by
    have hpy := fun z => (hpy z).body (nd := sc_fraction.nd) f cdv A outer s H E F' hr ps
    subst hcl
    exact ⟨w_fraction F'.Ex py, (ss_cons (s1_if (et_eq (ee_var 1) ee_int)
  (ss_one (s1_raise 0 hB x_Nought))
  ss_nil)
  (ss_cons (s1_if (et_lt (ee_var 1) ee_int)
  (ss_cons (s1_set 0 (ee_neg (ee_var 0)))
  (ss_one (s1_set 1 (ee_neg (ee_var 1)))))
  ss_nil)
  (ss_cons (s1_set 2 (ee_call G_divisor (ea_cons (ee_abs Z.abs (ea_cons (ee_var 0) ea_nil)) (ea_cons (ee_var 1) ea_nil))))
  (ss_one (s1_ret (ee_tup (ea_cons (ee_fdiv hpy (ee_var 0) (ee_var 2)) (ea_cons (ee_fdiv hpy (ee_var 1) (ee_var 2)) ea_nil)))))))),
      fun ds r h e => by rw [e]; exact pure_fraction py ds r h⟩

abbrev s_is_whole : Stmt := topS 8
theorem sc_is_whole : FnScope ["thing"] ["thing"] (defScope s_is_whole) := ⟨rfl, rfl, rfl, by decide +kernel, rfl, by decide +kernel, by decide +kernel⟩
theorem fn_is_whole {f : Addr} {fd : FuncData} (F : Fun K "is_whole" "is_whole" s_is_whole f fd) (Z : Bi mg) (hpy : py → PyOk P w K mg base) : FnOk P w K mg base (L2.CX P w) 34 f fd ["thing"] (spR K cl (R_is_whole py)) :=
  mk_fn F sc_is_whole (len_is_whole py) <| fun f cdv A outer s H E F' hr ps hcl hB => by
    subst hcl
    exact ⟨w_is_whole F'.Ex py, (ss_one (s1_ret (ee_and (ee_isi .int Z.isinstance Z.int (ee_var 0)) (ee_one (ee_not (ee_isi .bool Z.isinstance Z.bool (ee_var 0))))))),
      fun ds r h e => by rw [e]; exact pure_is_whole py ds r h⟩

abbrev s_is_fraction : Stmt := topS 9
theorem sc_is_fraction : FnScope ["thing"] ["thing"] (defScope s_is_fraction) := ⟨rfl, rfl, rfl, by decide +kernel, rfl, by decide +kernel, by decide +kernel⟩
theorem fn_is_fraction {f : Addr} {fd : FuncData} (F : Fun K "is_fraction" "is_fraction" s_is_fraction f fd) (Z : Bi mg) (hpy : py → PyOk P w K mg base) (G_is_whole : Cl P w K mg base cl 34 "is_whole" (R_is_whole py)) (G_divisor : Cl P w K mg base cl 34 "divisor" (R_divisor py)) : FnOk P w K mg base (L2.CX P w) 35 f fd ["thing"] (spR K cl (R_is_fraction py)) :=
  mk_fn F sc_is_fraction (len_is_fraction py) <| fun f cdv A outer s H E F' hr ps hcl hB => by
    subst hcl
    exact ⟨w_is_fraction F'.Ex py, (ss_cons (s1_if (ew_pt (ew_or (et_not (et_val (ee_isi .tuple Z.isinstance Z.tuple (ee_var 0)))) (ew_or (et_ne (ee_len Z.len (ee_var 0)) ee_int) (ew_or (et_not (et_val (ee_call G_is_whole (ea_cons (ee_ix (ee_var 0) ee_int) ea_nil)))) (ew_or1 (et_not (et_val (ee_call G_is_whole (ea_cons (ee_ix (ee_var 0) ee_int) ea_nil)))))))))
  (ss_one (s1_ret ee_bl))
  ss_nil)
  (ss_one (s1_ret (ee_and (ee_gt (ee_ix (ee_var 0) ee_int) ee_int) (ee_one (ee_eq (ee_call G_divisor (ea_cons (ee_abs Z.abs (ea_cons (ee_ix (ee_var 0) ee_int) ea_nil)) (ea_cons (ee_ix (ee_var 0) ee_int) ea_nil))) ee_int)))))),
      fun ds r h e => by rw [e]; exact pure_is_fraction py ds r h⟩

abbrev s_sum_of : Stmt := topS 10
theorem sc_sum_of : FnScope ["one", "other"] ["one", "other"] (defScope s_sum_of) := ⟨rfl, rfl, rfl, by decide +kernel, rfl, by decide +kernel, by decide +kernel⟩
theorem fn_sum_of {f : Addr} {fd : FuncData} (F : Fun K "sum_of" "sum_of" s_sum_of f fd) (Z : Bi mg) (hpy : py → PyOk P w K mg base) (G_fraction : Cl P w K mg base cl 35 "fraction" (R_fraction py)) : FnOk P w K mg base (L2.CX P w) 36 f fd ["one", "other"] (spR K cl (R_sum_of py)) :=
  mk_fn F sc_sum_of (len_sum_of py) <| fun f cdv A outer s H E F' hr ps hcl hB => by
    subst hcl
    exact ⟨w_sum_of F'.Ex py, (ss_one (s1_ret (ee_call G_fraction (ea_cons (ee_add (ee_mul (ee_ix (ee_var 0) ee_int) (ee_ix (ee_var 1) ee_int)) (ee_mul (ee_ix (ee_var 1) ee_int) (ee_ix (ee_var 0) ee_int))) (ea_cons (ee_mul (ee_ix (ee_var 0) ee_int) (ee_ix (ee_var 1) ee_int)) ea_nil))))),
      fun ds r h e => by rw [e]; exact pure_sum_of py ds r h⟩

abbrev s_product_of : Stmt := topS 11
theorem sc_product_of : FnScope ["one", "other"] ["one", "other"] (defScope s_product_of) := ⟨rfl, rfl, rfl, by decide +kernel, rfl, by decide +kernel, by decide +kernel⟩
theorem fn_product_of {f : Addr} {fd : FuncData} (F : Fun K "product_of" "product_of" s_product_of f fd) (Z : Bi mg) (hpy : py → PyOk P w K mg base) (G_fraction : Cl P w K mg base cl 35 "fraction" (R_fraction py)) : FnOk P w K mg base (L2.CX P w) 36 f fd ["one", "other"] (spR K cl (R_product_of py)) :=
  mk_fn F sc_product_of (len_product_of py) <| fun f cdv A outer s H E F' hr ps hcl hB => by
    subst hcl
    exact ⟨w_product_of F'.Ex py, (ss_one (s1_ret (ee_call G_fraction (ea_cons (ee_mul (ee_ix (ee_var 0) ee_int) (ee_ix (ee_var 1) ee_int)) (ea_cons (ee_mul (ee_ix (ee_var 0) ee_int) (ee_ix (ee_var 1) ee_int)) ea_nil))))),
      fun ds r h e => by rw [e]; exact pure_product_of py ds r h⟩

abbrev s_part_of : Stmt := topS 12
theorem sc_part_of : FnScope ["one", "other"] ["one", "other"] (defScope s_part_of) := ⟨rfl, rfl, rfl, by decide +kernel, rfl, by decide +kernel, by decide +kernel⟩
theorem fn_part_of {f : Addr} {fd : FuncData} (F : Fun K "part_of" "part_of" s_part_of f fd) (Z : Bi mg) (hpy : py → PyOk P w K mg base) (G_fraction : Cl P w K mg base cl 35 "fraction" (R_fraction py)) : FnOk P w K mg base (L2.CX P w) 36 f fd ["one", "other"] (spR K cl (R_part_of py)) :=
  mk_fn F sc_part_of (len_part_of py) <| fun f cdv A outer s H E F' hr ps hcl hB => by
    subst hcl
    exact ⟨w_part_of F'.Ex py, (ss_one (s1_ret (ee_call G_fraction (ea_cons (ee_mul (ee_ix (ee_var 0) ee_int) (ee_ix (ee_var 1) ee_int)) (ea_cons (ee_mul (ee_ix (ee_var 0) ee_int) (ee_ix (ee_var 1) ee_int)) ea_nil))))),
      fun ds r h e => by rw [e]; exact pure_part_of py ds r h⟩

abbrev s_is_row : Stmt := topS 15
theorem sc_is_row : FnScope ["thing", "part"] ["thing"] (defScope s_is_row) := ⟨rfl, rfl, rfl, by decide +kernel, rfl, by decide +kernel, by decide +kernel⟩
theorem fn_is_row {f : Addr} {fd : FuncData} (F : Fun K "is_row" "is_row" s_is_row f fd) (Z : Bi mg) (hpy : py → PyOk P w K mg base) (G_is_fraction : Cl P w K mg base cl 35 "is_fraction" (R_is_fraction py)) : FnOk P w K mg base (L2.CX P w) 36 f fd ["thing"] (spR K cl (R_is_row py)) :=
  mk_fn F sc_is_row (len_is_row py) <| fun f cdv A outer s H E F' hr ps hcl hB => by
    subst hcl
    exact ⟨w_is_row F'.Ex py, (ss_cons (s1_if (et_not (et_val (ee_isi .tuple Z.isinstance Z.tuple (ee_var 0))))
  (ss_one (s1_ret ee_bl))
  ss_nil)
  (ss_cons (s1_for hB (ei_tup (ee_var 0)) (gg_name 1)
  (ss_one (s1_if (et_not (et_val (ee_call G_is_fraction (ea_cons (ee_var 1) ea_nil))))
  (ss_one (s1_ret ee_bl))
  ss_nil)))
  (ss_one (s1_ret (ee_or (ee_eq (ee_len Z.len (ee_var 0)) ee_int) (ee_one (ee_ne (ee_ix (ee_ix (ee_var 0) (ee_neg ee_int)) ee_int) ee_int))))))),
      fun ds r h e => by rw [e]; exact pure_is_row py ds r h⟩

abbrev s_need_rows : Stmt := topS 16
theorem sc_need_rows : FnScope ["things", "thing"] ["things"] (defScope s_need_rows) := ⟨rfl, rfl, rfl, by decide +kernel, rfl, by decide +kernel, by decide +kernel⟩
theorem fn_need_rows {f : Addr} {fd : FuncData} (F : Fun K "need_rows" "need_rows" s_need_rows f fd) (Z : Bi mg) (hpy : py → PyOk P w K mg base) (G_is_row : Cl P w K mg base cl 36 "is_row" (R_is_row py)) (x_NoRow : Xc K mg "NoRow" (cl 1)) : FnOk P w K mg base (L2.CX P w) 37 f fd ["things"] (spR K cl (R_need_rows py)) :=
  mk_fn F sc_need_rows (len_need_rows py) <| fun f cdv A outer s H E F' hr ps hcl hB => by
    subst hcl
    exact ⟨w_need_rows F'.Ex py, (ss_one (s1_for hB (ei_list (ee_var 0)) (gg_name 1)
  (ss_one (s1_if (et_not (et_val (ee_call G_is_row (ea_cons (ee_var 1) ea_nil))))
  (ss_one (s1_raise 1 hB x_NoRow))
  ss_nil)))),
      fun ds r h e => by rw [e]; exact pure_need_rows py ds r h⟩

abbrev s_trimmed : Stmt := topS 17
theorem sc_trimmed : FnScope ["parts", "count"] ["parts"] (defScope s_trimmed) := ⟨rfl, rfl, rfl, by decide +kernel, rfl, by decide +kernel, by decide +kernel⟩
theorem fn_trimmed {f : Addr} {fd : FuncData} (F : Fun K "trimmed" "trimmed" s_trimmed f fd) (Z : Bi mg) (hpy : py → PyOk P w K mg base) : FnOk P w K mg base (L2.CX P w) 34 f fd ["parts"] (spR K cl (R_trimmed py)) :=
  mk_fn F sc_trimmed (len_trimmed py) <| fun f cdv A outer s H E F' hr ps hcl hB => by
    subst hcl
    exact ⟨w_trimmed F'.Ex py, (ss_cons (s1_set 1 (ee_len Z.len (ee_var 0)))
  (ss_cons (s1_while hB (ew_pt (ew_and (et_gt (ee_var 1) ee_int) (ew_and1 (et_eq (ee_ix (ee_ix (ee_var 0) (ee_sub (ee_var 1) ee_int)) ee_int) ee_int))))
  (ss_one (s1_set 1 (ee_sub (ee_var 1) ee_int))))
  (ss_one (s1_ret (ee_tuple Z.tuple (ea_cons (ee_sl (ee_var 0) eo_no (eo_some (ee_var 1))) ea_nil)))))),
      fun ds r h e => by rw [e]; exact pure_trimmed py ds r h⟩

abbrev s_scale : Stmt := topS 18
theorem sc_scale : FnScope ["row", "number", "part"] ["row", "number"] (defScope s_scale) := ⟨rfl, rfl, rfl, by decide +kernel, rfl, by decide +kernel, by decide +kernel⟩
theorem fn_scale {f : Addr} {fd : FuncData} (F : Fun K "scale" "scale" s_scale f fd) (Z : Bi mg) (hpy : py → PyOk P w K mg base) (G_trimmed : Cl P w K mg base cl 34 "trimmed" (R_trimmed py)) (G_product_of : Cl P w K mg base cl 36 "product_of" (R_product_of py)) : FnOk P w K mg base (L2.CX P w) 37 f fd ["row", "number"] (spR K cl (R_scale py)) :=
  mk_fn F sc_scale (len_scale py) <| fun f cdv A outer s H E F' hr ps hcl hB => by
    subst hcl
    exact ⟨w_scale F'.Ex py, (ss_one (s1_ret (ee_call G_trimmed (ea_cons (ee_l (el_lc (own := [("part", 2)]) (ei_tup (ee_var 0)) (gg_name 2) ets_nil (ee_call G_product_of (ea_cons (ee_var 2) (ea_cons (ee_var 1) ea_nil))) (fun _ => blkOk_by (show blkC ["row", "number", "part"] (defScope s_scale) _ _ = true from by decide +kernel)))) ea_nil)))),
      fun ds r h e => by rw [e]; exact pure_scale py ds r h⟩

abbrev s_add : Stmt := topS 19
theorem sc_add : FnScope ["one", "other", "found", "k", "here"] ["one", "other"] (defScope s_add) := ⟨rfl, rfl, rfl, by decide +kernel, rfl, by decide +kernel, by decide +kernel⟩
theorem fn_add {f : Addr} {fd : FuncData} (F : Fun K "add" "add" s_add f fd) (Z : Bi mg) (hpy : py → PyOk P w K mg base) (G_sum_of : Cl P w K mg base cl 36 "sum_of" (R_sum_of py)) (G_trimmed : Cl P w K mg base cl 34 "trimmed" (R_trimmed py)) (g_NONE : Glo K mg "NONE" c_NONE) : FnOk P w K mg base (L2.CX P w) 37 f fd ["one", "other"] (spR K cl (R_add py)) :=
  mk_fn F sc_add (len_add py) <| fun f cdv A outer s H E F' hr ps hcl hB => by
    subst hcl
    exact ⟨w_add F'.Ex py, (ss_cons (s1_setL 2 (el_lst ea_nil))
  (ss_cons (s1_for hB (ei_r1 Z.range (ea_cons (ee_max Z.max (ea_cons (ee_len Z.len (ee_var 0)) (ea_cons (ee_len Z.len (ee_var 1)) ea_nil))) ea_nil)) (gg_name 3)
  (ss_cons (s1_set 4 (ee_glob g_NONE))
  (ss_cons (s1_if (et_lt (ee_var 3) (ee_len Z.len (ee_var 0)))
  (ss_one (s1_set 4 (ee_ix (ee_var 0) (ee_var 3))))
  ss_nil)
  (ss_cons (s1_if (et_lt (ee_var 3) (ee_len Z.len (ee_var 1)))
  (ss_one (s1_set 4 (ee_call G_sum_of (ea_cons (ee_var 4) (ea_cons (ee_ix (ee_var 1) (ee_var 3)) ea_nil)))))
  ss_nil)
  (ss_one (s1_app 2 (ee_var 4)))))))
  (ss_one (s1_frz 2 (s1_ret (ee_call G_trimmed (ea_cons (ee_var 2) ea_nil))))))),
      fun ds r h e => by rw [e]; exact pure_add py ds r h⟩

abbrev s_multiply : Stmt := topS 20
theorem sc_multiply : FnScope ["one", "other", "found", "j", "k"] ["one", "other"] (defScope s_multiply) := ⟨rfl, rfl, rfl, by decide +kernel, rfl, by decide +kernel, by decide +kernel⟩
theorem fn_multiply {f : Addr} {fd : FuncData} (F : Fun K "multiply" "multiply" s_multiply f fd) (Z : Bi mg) (hpy : py → PyOk P w K mg base) (G_sum_of : Cl P w K mg base cl 36 "sum_of" (R_sum_of py)) (G_product_of : Cl P w K mg base cl 36 "product_of" (R_product_of py)) (G_trimmed : Cl P w K mg base cl 34 "trimmed" (R_trimmed py)) (g_NONE : Glo K mg "NONE" c_NONE) : FnOk P w K mg base (L2.CX P w) 37 f fd ["one", "other"] (spR K cl (R_multiply py)) :=
  mk_fn F sc_multiply (len_multiply py) <| fun f cdv A outer s H E F' hr ps hcl hB => by
    subst hcl
    exact ⟨w_multiply F'.Ex py, (ss_cons (s1_setL 2 (el_rep (ee_lst (ea_cons (ee_glob g_NONE) ea_nil)) (ee_add (ee_len Z.len (ee_var 0)) (ee_len Z.len (ee_var 1)))))
  (ss_cons (s1_for hB (ei_r1 Z.range (ea_cons (ee_len Z.len (ee_var 0)) ea_nil)) (gg_name 3)
  (ss_one (s1_for hB (ei_r1 Z.range (ea_cons (ee_len Z.len (ee_var 1)) ea_nil)) (gg_name 4)
  (ss_one (s1_setix 2 (ee_add (ee_var 3) (ee_var 4)) (ee_call G_sum_of (ea_cons (ee_ixO 2 (ee_add (ee_var 3) (ee_var 4))) (ea_cons (ee_call G_product_of (ea_cons (ee_ix (ee_var 0) (ee_var 3)) (ea_cons (ee_ix (ee_var 1) (ee_var 4)) ea_nil))) ea_nil))))))))
  (ss_one (s1_frz 2 (s1_ret (ee_call G_trimmed (ea_cons (ee_var 2) ea_nil))))))),
      fun ds r h e => by rw [e]; exact pure_multiply py ds r h⟩

abbrev s_divide : Stmt := topS 21
theorem sc_divide : FnScope ["one", "other", "whole", "left", "at", "piece", "part"] ["one", "other"] (defScope s_divide) := ⟨rfl, rfl, rfl, by decide +kernel, rfl, by decide +kernel, by decide +kernel⟩
theorem fn_divide {f : Addr} {fd : FuncData} (F : Fun K "divide" "divide" s_divide f fd) (Z : Bi mg) (hpy : py → PyOk P w K mg base) (G_part_of : Cl P w K mg base cl 36 "part_of" (R_part_of py)) (G_product_of : Cl P w K mg base cl 36 "product_of" (R_product_of py)) (G_add : Cl P w K mg base cl 37 "add" (R_add py)) (G_trimmed : Cl P w K mg base cl 34 "trimmed" (R_trimmed py)) (G_fraction : Cl P w K mg base cl 35 "fraction" (R_fraction py)) (g_NONE : Glo K mg "NONE" c_NONE) : FnOk P w K mg base (L2.CX P w) 38 f fd ["one", "other"] (spR K cl (R_divide py)) :=
  mk_fn F sc_divide (len_divide py) <| fun f cdv A outer s H E F' hr ps hcl hB => by
    subst hcl
    exact ⟨w_divide F'.Ex py, (ss_cons (s1_setL 2 (el_rep (ee_lst (ea_cons (ee_glob g_NONE) ea_nil)) (ee_max Z.max (ea_cons ee_int (ea_cons (ee_add (ee_sub (ee_len Z.len (ee_var 0)) (ee_len Z.len (ee_var 1))) ee_int) ea_nil)))))
  (ss_cons (s1_set 3 (ee_var 0))
  (ss_cons (s1_while hB (et_ge (ee_len Z.len (ee_var 3)) (ee_len Z.len (ee_var 1)))
  (ss_cons (s1_set 4 (ee_sub (ee_len Z.len (ee_var 3)) (ee_len Z.len (ee_var 1))))
  (ss_cons (s1_setix 2 (ee_var 4) (ee_call G_part_of (ea_cons (ee_ix (ee_var 3) (ee_neg ee_int)) (ea_cons (ee_ix (ee_var 1) (ee_neg ee_int)) ea_nil))))
  (ss_cons (s1_set 5 (ee_add (ee_mul (ee_lst (ea_cons (ee_glob g_NONE) ea_nil)) (ee_var 4)) (ee_l (el_lc (own := [("part", 6)]) (ei_tup (ee_var 1)) (gg_name 6) ets_nil (ee_call G_product_of (ea_cons (ee_var 6) (ea_cons (ee_ixO 2 (ee_var 4)) ea_nil))) (fun _ => blkOk_by (show blkC ["one", "other", "whole", "left", "at", "piece", "part"] (defScope s_divide) _ _ = true from by decide +kernel))))))
  (ss_one (s1_set 3 (ee_call G_add (ea_cons (ee_sl (ee_var 3) eo_no (eo_some (ee_neg ee_int))) (ea_cons (ee_call G_trimmed (ea_cons (ee_l (el_lc (own := [("part", 6)]) (ei_list (ee_sl (ee_var 5) eo_no (eo_some (ee_neg ee_int)))) (gg_name 6) ets_nil (ee_call G_fraction (ea_cons (ee_neg (ee_ix (ee_var 6) ee_int)) (ea_cons (ee_ix (ee_var 6) ee_int) ea_nil))) (fun _ => blkOk_by (show blkC ["one", "other", "whole", "left", "at", "piece", "part"] (defScope s_divide) _ _ = true from by decide +kernel)))) ea_nil)) ea_nil)))))))))
  (ss_one (s1_frz 2 (s1_ret (ee_tup (ea_cons (ee_call G_trimmed (ea_cons (ee_var 2) ea_nil)) (ea_cons (ee_var 3) ea_nil))))))))),
      fun ds r h e => by rw [e]; exact pure_divide py ds r h⟩

abbrev s_slope : Stmt := topS 22
theorem sc_slope : FnScope ["row", "k"] ["row"] (defScope s_slope) := ⟨rfl, rfl, rfl, by decide +kernel, rfl, by decide +kernel, by decide +kernel⟩
theorem fn_slope {f : Addr} {fd : FuncData} (F : Fun K "slope" "slope" s_slope f fd) (Z : Bi mg) (hpy : py → PyOk P w K mg base) (G_trimmed : Cl P w K mg base cl 34 "trimmed" (R_trimmed py)) (G_product_of : Cl P w K mg base cl 36 "product_of" (R_product_of py)) : FnOk P w K mg base (L2.CX P w) 37 f fd ["row"] (spR K cl (R_slope py)) :=
  mk_fn F sc_slope (len_slope py) <| fun f cdv A outer s H E F' hr ps hcl hB => by
    subst hcl
    exact ⟨w_slope F'.Ex py, (ss_one (s1_ret (ee_call G_trimmed (ea_cons (ee_l (el_lc (own := [("k", 1)]) (ei_r2 Z.range (ea_cons ee_int (ea_cons (ee_len Z.len (ee_var 0)) ea_nil))) (gg_name 1) ets_nil (ee_call G_product_of (ea_cons (ee_ix (ee_var 0) (ee_var 1)) (ea_cons (ee_tup (ea_cons (ee_var 1) (ea_cons ee_int ea_nil))) ea_nil))) (fun _ => blkOk_by (show blkC ["row", "k"] (defScope s_slope) _ _ = true from by decide +kernel)))) ea_nil)))),
      fun ds r h e => by rw [e]; exact pure_slope py ds r h⟩

abbrev s_shared : Stmt := topS 26
theorem sc_shared : FnScope ["one", "other", "ahead", "behind", "by", "first", "second", "whole", "left"] ["one", "other"] (defScope s_shared) := ⟨rfl, rfl, rfl, by decide +kernel, rfl, by decide +kernel, by decide +kernel⟩
theorem fn_shared {f : Addr} {fd : FuncData} (F : Fun K "shared" "shared" s_shared f fd) (Z : Bi mg) (hpy : py → PyOk P w K mg base) (G_divide : Cl P w K mg base cl 38 "divide" (R_divide py)) (G_add : Cl P w K mg base cl 37 "add" (R_add py)) (G_scale : Cl P w K mg base cl 37 "scale" (R_scale py)) (G_multiply : Cl P w K mg base cl 37 "multiply" (R_multiply py)) (G_part_of : Cl P w K mg base cl 36 "part_of" (R_part_of py)) (g_MINUS : Glo K mg "MINUS" c_MINUS) (g_ONE : Glo K mg "ONE" c_ONE) : FnOk P w K mg base (L2.CX P w) 39 f fd ["one", "other"] (spR K cl (R_shared py)) :=
  mk_fn F sc_shared (len_shared py) <| fun f cdv A outer s H E F' hr ps hcl hB => by
    subst hcl
    exact ⟨w_shared F'.Ex py, (ss_cons (s1_set 2 (ee_tup (ea_cons (ee_var 0) (ea_cons (ee_glob g_ONE) (ea_cons (ee_tup ea_nil) ea_nil)))))
  (ss_cons (s1_set 3 (ee_tup (ea_cons (ee_var 1) (ea_cons (ee_tup ea_nil) (ea_cons (ee_glob g_ONE) ea_nil)))))
  (ss_cons (s1_while hB (et_gt (ee_len Z.len (ee_ix (ee_var 3) ee_int)) ee_int)
  (ss_cons (s1_asg (ee_call G_divide (ea_cons (ee_ix (ee_var 2) ee_int) (ea_cons (ee_ix (ee_var 3) ee_int) ea_nil))) (gg_tup (n := 2) (lenT2) (ggs_cons (gg_name 7) (ggs_cons (gg_name 8) ggs_nil))))
  (ss_cons (s1_set 5 (ee_call G_add (ea_cons (ee_ix (ee_var 2) ee_int) (ea_cons (ee_call G_scale (ea_cons (ee_call G_multiply (ea_cons (ee_var 7) (ea_cons (ee_ix (ee_var 3) ee_int) ea_nil))) (ea_cons (ee_glob g_MINUS) ea_nil))) ea_nil))))
  (ss_cons (s1_set 6 (ee_call G_add (ea_cons (ee_ix (ee_var 2) ee_int) (ea_cons (ee_call G_scale (ea_cons (ee_call G_multiply (ea_cons (ee_var 7) (ea_cons (ee_ix (ee_var 3) ee_int) ea_nil))) (ea_cons (ee_glob g_MINUS) ea_nil))) ea_nil))))
  (ss_one (s1_par 2 3 (ea_cons (ee_var 3) (ea_cons (ee_tup (ea_cons (ee_var 8) (ea_cons (ee_var 5) (ea_cons (ee_var 6) ea_nil)))) ea_nil))))))))
  (ss_cons (s1_if (et_eq (ee_len Z.len (ee_ix (ee_var 2) ee_int)) ee_int)
  (ss_one (s1_ret (ee_tup (ea_cons (ee_tup ea_nil) (ea_cons (ee_tup ea_nil) (ea_cons (ee_tup ea_nil) ea_nil))))))
  ss_nil)
  (ss_cons (s1_set 4 (ee_call G_part_of (ea_cons (ee_tup (ea_cons ee_int (ea_cons ee_int ea_nil))) (ea_cons (ee_ix (ee_ix (ee_var 2) ee_int) (ee_neg ee_int)) ea_nil))))
  (ss_one (s1_ret (ee_tup (ea_cons (ee_call G_scale (ea_cons (ee_ix (ee_var 2) ee_int) (ea_cons (ee_var 4) ea_nil))) (ea_cons (ee_call G_scale (ea_cons (ee_ix (ee_var 2) ee_int) (ea_cons (ee_var 4) ea_nil))) (ea_cons (ee_call G_scale (ea_cons (ee_ix (ee_var 2) ee_int) (ea_cons (ee_var 4) ea_nil))) ea_nil))))))))))),
      fun ds r h e => by rw [e]; exact pure_shared py ds r h⟩

abbrev s_led : Stmt := topS 27
theorem sc_led : FnScope ["row"] ["row"] (defScope s_led) := ⟨rfl, rfl, rfl, by decide +kernel, rfl, by decide +kernel, by decide +kernel⟩
theorem fn_led {f : Addr} {fd : FuncData} (F : Fun K "led" "led" s_led f fd) (Z : Bi mg) (hpy : py → PyOk P w K mg base) (G_scale : Cl P w K mg base cl 37 "scale" (R_scale py)) (G_part_of : Cl P w K mg base cl 36 "part_of" (R_part_of py)) : FnOk P w K mg base (L2.CX P w) 38 f fd ["row"] (spR K cl (R_led py)) :=
  mk_fn F sc_led (len_led py) <| fun f cdv A outer s H E F' hr ps hcl hB => by
    subst hcl
    exact ⟨w_led F'.Ex py, (ss_cons (s1_if (et_eq (ee_len Z.len (ee_var 0)) ee_int)
  (ss_one (s1_ret (ee_var 0)))
  ss_nil)
  (ss_one (s1_ret (ee_call G_scale (ea_cons (ee_var 0) (ea_cons (ee_call G_part_of (ea_cons (ee_tup (ea_cons ee_int (ea_cons ee_int ea_nil))) (ea_cons (ee_ix (ee_var 0) (ee_neg ee_int)) ea_nil))) ea_nil)))))),
      fun ds r h e => by rw [e]; exact pure_led py ds r h⟩

abbrev s_greatest : Stmt := topS 28
theorem sc_greatest : FnScope ["one", "other"] ["one", "other"] (defScope s_greatest) := ⟨rfl, rfl, rfl, by decide +kernel, rfl, by decide +kernel, by decide +kernel⟩
theorem fn_greatest {f : Addr} {fd : FuncData} (F : Fun K "greatest" "greatest" s_greatest f fd) (Z : Bi mg) (hpy : py → PyOk P w K mg base) (G_led : Cl P w K mg base cl 38 "led" (R_led py)) (G_divide : Cl P w K mg base cl 38 "divide" (R_divide py)) : FnOk P w K mg base (L2.CX P w) 39 f fd ["one", "other"] (spR K cl (R_greatest py)) :=
  mk_fn F sc_greatest (len_greatest py) <| fun f cdv A outer s H E F' hr ps hcl hB => by
    subst hcl
    exact ⟨w_greatest F'.Ex py, (ss_cons (s1_while hB (et_gt (ee_len Z.len (ee_var 1)) ee_int)
  (ss_one (s1_par 0 1 (ea_cons (ee_var 1) (ea_cons (ee_call G_led (ea_cons (ee_ix (ee_call G_divide (ea_cons (ee_var 0) (ea_cons (ee_var 1) ea_nil))) ee_int) ea_nil)) ea_nil)))))
  (ss_one (s1_ret (ee_call G_led (ea_cons (ee_var 0) ea_nil))))),
      fun ds r h e => by rw [e]; exact pure_greatest py ds r h⟩

abbrev s_is_apart : Stmt := topS 29
theorem sc_is_apart : FnScope ["one", "other"] ["one", "other"] (defScope s_is_apart) := ⟨rfl, rfl, rfl, by decide +kernel, rfl, by decide +kernel, by decide +kernel⟩
theorem fn_is_apart {f : Addr} {fd : FuncData} (F : Fun K "is_apart" "is_apart" s_is_apart f fd) (Z : Bi mg) (hpy : py → PyOk P w K mg base) (G_greatest : Cl P w K mg base cl 39 "greatest" (R_greatest py)) (g_ONE : Glo K mg "ONE" c_ONE) : FnOk P w K mg base (L2.CX P w) 40 f fd ["one", "other"] (spR K cl (R_is_apart py)) :=
  mk_fn F sc_is_apart (len_is_apart py) <| fun f cdv A outer s H E F' hr ps hcl hB => by
    subst hcl
    exact ⟨w_is_apart F'.Ex py, (ss_one (s1_ret (ee_eq (ee_call G_greatest (ea_cons (ee_var 0) (ea_cons (ee_var 1) ea_nil))) (ee_glob g_ONE)))),
      fun ds r h e => by rw [e]; exact pure_is_apart py ds r h⟩

abbrev s_is_quotient : Stmt := topS 31
theorem sc_is_quotient : FnScope ["thing"] ["thing"] (defScope s_is_quotient) := ⟨rfl, rfl, rfl, by decide +kernel, rfl, by decide +kernel, by decide +kernel⟩
theorem fn_is_quotient {f : Addr} {fd : FuncData} (F : Fun K "is_quotient" "is_quotient" s_is_quotient f fd) (Z : Bi mg) (hpy : py → PyOk P w K mg base) (G_is_row : Cl P w K mg base cl 36 "is_row" (R_is_row py)) (G_is_apart : Cl P w K mg base cl 40 "is_apart" (R_is_apart py)) : FnOk P w K mg base (L2.CX P w) 41 f fd ["thing"] (spR K cl (R_is_quotient py)) :=
  mk_fn F sc_is_quotient (len_is_quotient py) <| fun f cdv A outer s H E F' hr ps hcl hB => by
    subst hcl
    exact ⟨w_is_quotient F'.Ex py, (ss_cons (s1_if (ew_pt (ew_or (et_not (et_val (ee_isi .tuple Z.isinstance Z.tuple (ee_var 0)))) (ew_or (et_ne (ee_len Z.len (ee_var 0)) ee_int) (ew_or (et_not (et_val (ee_call G_is_row (ea_cons (ee_ix (ee_var 0) ee_int) ea_nil)))) (ew_or1 (et_not (et_val (ee_call G_is_row (ea_cons (ee_ix (ee_var 0) ee_int) ea_nil)))))))))
  (ss_one (s1_ret ee_bl))
  ss_nil)
  (ss_one (s1_ret (ee_and (ee_gt (ee_len Z.len (ee_ix (ee_var 0) ee_int)) ee_int) (ee_and (ee_eq (ee_ix (ee_ix (ee_var 0) ee_int) (ee_neg ee_int)) (ee_tup (ea_cons ee_int (ea_cons ee_int ea_nil)))) (ee_one (ee_call G_is_apart (ea_cons (ee_ix (ee_var 0) ee_int) (ea_cons (ee_ix (ee_var 0) ee_int) ea_nil))))))))),
      fun ds r h e => by rw [e]; exact pure_is_quotient py ds r h⟩

abbrev s_need_quotients : Stmt := topS 32
theorem sc_need_quotients : FnScope ["things", "thing"] ["things"] (defScope s_need_quotients) := ⟨rfl, rfl, rfl, by decide +kernel, rfl, by decide +kernel, by decide +kernel⟩
theorem fn_need_quotients {f : Addr} {fd : FuncData} (F : Fun K "need_quotients" "need_quotients" s_need_quotients f fd) (Z : Bi mg) (hpy : py → PyOk P w K mg base) (G_is_quotient : Cl P w K mg base cl 41 "is_quotient" (R_is_quotient py)) (x_NoQuotient : Xc K mg "NoQuotient" (cl 2)) : FnOk P w K mg base (L2.CX P w) 42 f fd ["things"] (spR K cl (R_need_quotients py)) :=
  mk_fn F sc_need_quotients (len_need_quotients py) <| fun f cdv A outer s H E F' hr ps hcl hB => by
    subst hcl
    exact ⟨w_need_quotients F'.Ex py, (ss_one (s1_for hB (ei_list (ee_var 0)) (gg_name 1)
  (ss_one (s1_if (et_not (et_val (ee_call G_is_quotient (ea_cons (ee_var 1) ea_nil))))
  (ss_one (s1_raise 2 hB x_NoQuotient))
  ss_nil)))),
      fun ds r h e => by rw [e]; exact pure_need_quotients py ds r h⟩

abbrev s_powered : Stmt := topS 33
theorem sc_powered : FnScope ["row", "power", "found", "k"] ["row", "power"] (defScope s_powered) := ⟨rfl, rfl, rfl, by decide +kernel, rfl, by decide +kernel, by decide +kernel⟩
theorem fn_powered {f : Addr} {fd : FuncData} (F : Fun K "powered" "powered" s_powered f fd) (Z : Bi mg) (hpy : py → PyOk P w K mg base) (G_multiply : Cl P w K mg base cl 37 "multiply" (R_multiply py)) (g_ONE : Glo K mg "ONE" c_ONE) : FnOk P w K mg base (L2.CX P w) 38 f fd ["row", "power"] (spR K cl (R_powered py)) :=
  mk_fn F sc_powered (len_powered py) <| fun f cdv A outer s H E F' hr ps hcl hB => by
    subst hcl
    exact ⟨w_powered F'.Ex py, (ss_cons (s1_set 2 (ee_glob g_ONE))
  (ss_cons (s1_for hB (ei_r1 Z.range (ea_cons (ee_var 1) ea_nil)) (gg_name 3)
  (ss_one (s1_set 2 (ee_call G_multiply (ea_cons (ee_var 2) (ea_cons (ee_var 0) ea_nil))))))
  (ss_one (s1_ret (ee_var 2))))),
      fun ds r h e => by rw [e]; exact pure_powered py ds r h⟩

abbrev s_by_powers : Stmt := topS 35
theorem sc_by_powers : FnScope ["bottom", "found", "both", "left", "power", "still", "part"] ["bottom"] (defScope s_by_powers) := ⟨rfl, rfl, rfl, by decide +kernel, rfl, by decide +kernel, by decide +kernel⟩
theorem fn_by_powers {f : Addr} {fd : FuncData} (F : Fun K "by_powers" "by_powers" s_by_powers f fd) (Z : Bi mg) (hpy : py → PyOk P w K mg base) (G_greatest : Cl P w K mg base cl 39 "greatest" (R_greatest py)) (G_slope : Cl P w K mg base cl 37 "slope" (R_slope py)) (G_divide : Cl P w K mg base cl 38 "divide" (R_divide py)) (G_led : Cl P w K mg base cl 38 "led" (R_led py)) : FnOk P w K mg base (L2.CX P w) 40 f fd ["bottom"] (spR K cl (R_by_powers py)) :=
  mk_fn F sc_by_powers (len_by_powers py) <| fun f cdv A outer s H E F' hr ps hcl hB => by
    subst hcl
    exact ⟨w_by_powers F'.Ex py, (ss_cons (s1_setL 1 (el_lst ea_nil))
  (ss_cons (s1_set 2 (ee_call G_greatest (ea_cons (ee_var 0) (ea_cons (ee_call G_slope (ea_cons (ee_var 0) ea_nil)) ea_nil))))
  (ss_cons (s1_set 3 (ee_ix (ee_call G_divide (ea_cons (ee_var 0) (ea_cons (ee_var 2) ea_nil))) ee_int))
  (ss_cons (s1_set 4 ee_int)
  (ss_cons (s1_while hB (et_gt (ee_len Z.len (ee_var 3)) ee_int)
  (ss_cons (s1_set 5 (ee_call G_greatest (ea_cons (ee_var 3) (ea_cons (ee_var 2) ea_nil))))
  (ss_cons (s1_set 6 (ee_ix (ee_call G_divide (ea_cons (ee_var 3) (ea_cons (ee_var 5) ea_nil))) ee_int))
  (ss_cons (s1_if (et_gt (ee_len Z.len (ee_var 6)) ee_int)
  (ss_one (s1_app 1 (ee_tup (ea_cons (ee_call G_led (ea_cons (ee_var 6) ea_nil)) (ea_cons (ee_var 4) ea_nil)))))
  ss_nil)
  (ss_cons (s1_set 2 (ee_ix (ee_call G_divide (ea_cons (ee_var 2) (ea_cons (ee_var 5) ea_nil))) ee_int))
  (ss_cons (s1_set 3 (ee_var 5))
  (ss_one (s1_set 4 (ee_add (ee_var 4) ee_int)))))))))
  (ss_one (s1_frz 1 (s1_ret (ee_var 1))))))))),
      fun ds r h e => by rw [e]; exact pure_by_powers py ds r h⟩

abbrev s_cut : Stmt := topS 36
theorem sc_cut : FnScope ["part", "row", "both", "piece"] ["part", "row"] (defScope s_cut) := ⟨rfl, rfl, rfl, by decide +kernel, rfl, by decide +kernel, by decide +kernel⟩
theorem fn_cut {f : Addr} {fd : FuncData} (F : Fun K "cut" "cut" s_cut f fd) (Z : Bi mg) (hpy : py → PyOk P w K mg base) (G_greatest : Cl P w K mg base cl 39 "greatest" (R_greatest py)) (G_divide : Cl P w K mg base cl 38 "divide" (R_divide py)) (g_ONE : Glo K mg "ONE" c_ONE) : FnOk P w K mg base (L2.CX P w) 40 f fd ["part", "row"] (spR K cl (R_cut py)) :=
  mk_fn F sc_cut (len_cut py) <| fun f cdv A outer s H E F' hr ps hcl hB => by
    subst hcl
    exact ⟨w_cut F'.Ex py, (ss_cons (s1_set 2 (ee_call G_greatest (ea_cons (ee_var 0) (ea_cons (ee_var 1) ea_nil))))
  (ss_one (s1_ret (ee_l (el_lc (own := [("piece", 3)]) (ei_list (ee_lst (ea_cons (ee_var 2) (ea_cons (ee_ix (ee_call G_divide (ea_cons (ee_var 0) (ea_cons (ee_var 2) ea_nil))) ee_int) ea_nil)))) (gg_name 3) (ets_one (et_ne (ee_var 3) (ee_glob g_ONE))) (ee_var 3) (fun _ => blkOk_by (show blkC ["part", "row", "both", "piece"] (defScope s_cut) _ _ = true from by decide +kernel))))))),
      fun ds r h e => by rw [e]; exact pure_cut py ds r h⟩

abbrev s_parts_of : Stmt := topS 37
theorem sc_parts_of : FnScope ["bottom", "told", "found", "part", "power", "pieces", "row", "cuts", "piece"] ["bottom", "told"] (defScope s_parts_of) := ⟨rfl, rfl, rfl, by decide +kernel, rfl, by decide +kernel, by decide +kernel⟩
theorem fn_parts_of {f : Addr} {fd : FuncData} (F : Fun K "parts_of" "parts_of" s_parts_of f fd) (Z : Bi mg) (hpy : py → PyOk P w K mg base) (G_by_powers : Cl P w K mg base cl 40 "by_powers" (R_by_powers py)) (G_cut : Cl P w K mg base cl 40 "cut" (R_cut py)) : FnOk P w K mg base (L2.CX P w) 41 f fd ["bottom", "told"] (spR K cl (R_parts_of py)) :=
  mk_fn F sc_parts_of (len_parts_of py) <| fun f cdv A outer s H E F' hr ps hcl hB => by
    subst hcl
    exact ⟨w_parts_of F'.Ex py, (ss_cons (s1_set 2 (ee_lst ea_nil))
  (ss_cons (s1_for hB (ei_list (ee_call G_by_powers (ea_cons (ee_var 0) ea_nil))) (gg_tup (n := 2) (lenT2) (ggs_cons (gg_name 3) (ggs_cons (gg_name 4) ggs_nil)))
  (ss_cons (s1_set 5 (ee_lst (ea_cons (ee_var 3) ea_nil)))
  (ss_cons (s1_for hB (ei_list (ee_var 1)) (gg_name 6)
  (ss_cons (s1_set 7 (ee_lst ea_nil))
  (ss_cons (s1_for hB (ei_list (ee_var 5)) (gg_name 8)
  (ss_one (s1_set 7 (ee_add (ee_var 7) (ee_call G_cut (ea_cons (ee_var 8) (ea_cons (ee_var 6) ea_nil)))))))
  (ss_one (s1_set 5 (ee_var 7))))))
  (ss_one (s1_set 2 (ee_add (ee_var 2) (ee_l (el_lc (own := [("piece", 8)]) (ei_list (ee_var 5)) (gg_name 8) ets_nil (ee_tup (ea_cons (ee_var 8) (ea_cons (ee_var 4) ea_nil))) (fun _ => blkOk_by (show blkC ["bottom", "told", "found", "part", "power", "pieces", "row", "cuts", "piece"] (defScope s_parts_of) _ _ = true from by decide +kernel))))))))))
  (ss_one (s1_ret (ee_var 2))))),
      fun ds r h e => by rw [e]; exact pure_parts_of py ds r h⟩

abbrev s_over_part : Stmt := topS 38
theorem sc_over_part : FnScope ["top", "part", "rest", "back"] ["top", "part", "rest"] (defScope s_over_part) := ⟨rfl, rfl, rfl, by decide +kernel, rfl, by decide +kernel, by decide +kernel⟩
theorem fn_over_part {f : Addr} {fd : FuncData} (F : Fun K "over_part" "over_part" s_over_part f fd) (Z : Bi mg) (hpy : py → PyOk P w K mg base) (G_shared : Cl P w K mg base cl 39 "shared" (R_shared py)) (G_divide : Cl P w K mg base cl 38 "divide" (R_divide py)) (G_multiply : Cl P w K mg base cl 37 "multiply" (R_multiply py)) : FnOk P w K mg base (L2.CX P w) 40 f fd ["top", "part", "rest"] (spR K cl (R_over_part py)) :=
  mk_fn F sc_over_part (len_over_part py) <| fun f cdv A outer s H E F' hr ps hcl hB => by
    subst hcl
    exact ⟨w_over_part F'.Ex py, (ss_cons (s1_set 3 (ee_ix (ee_call G_shared (ea_cons (ee_var 2) (ea_cons (ee_var 1) ea_nil))) ee_int))
  (ss_one (s1_ret (ee_ix (ee_call G_divide (ea_cons (ee_call G_multiply (ea_cons (ee_var 0) (ea_cons (ee_var 3) ea_nil))) (ea_cons (ee_var 1) ea_nil))) ee_int)))),
      fun ds r h e => by rw [e]; exact pure_over_part py ds r h⟩

abbrev s_tops_over : Stmt := topS 39
theorem sc_tops_over : FnScope ["top", "bottom", "part", "power", "found", "high", "left", "k", "here"] ["top", "bottom", "part", "power"] (defScope s_tops_over) := ⟨rfl, rfl, rfl, by decide +kernel, rfl, by decide +kernel, by decide +kernel⟩
theorem fn_tops_over {f : Addr} {fd : FuncData} (F : Fun K "tops_over" "tops_over" s_tops_over f fd) (Z : Bi mg) (hpy : py → PyOk P w K mg base) (G_powered : Cl P w K mg base cl 38 "powered" (R_powered py)) (G_over_part : Cl P w K mg base cl 40 "over_part" (R_over_part py)) (G_divide : Cl P w K mg base cl 38 "divide" (R_divide py)) : FnOk P w K mg base (L2.CX P w) 41 f fd ["top", "bottom", "part", "power"] (spR K cl (R_tops_over py)) :=
  mk_fn F sc_tops_over (len_tops_over py) <| fun f cdv A outer s H E F' hr ps hcl hB => by
    subst hcl
    exact ⟨w_tops_over F'.Ex py, (ss_cons (s1_set 4 (ee_lst ea_nil))
  (ss_cons (s1_set 5 (ee_call G_powered (ea_cons (ee_var 2) (ea_cons (ee_var 3) ea_nil))))
  (ss_cons (s1_set 6 (ee_call G_over_part (ea_cons (ee_var 0) (ea_cons (ee_var 5) (ea_cons (ee_ix (ee_call G_divide (ea_cons (ee_var 1) (ea_cons (ee_var 5) ea_nil))) ee_int) ea_nil)))))
  (ss_cons (s1_for hB (ei_r1 Z.range (ea_cons (ee_var 3) ea_nil)) (gg_name 7)
  (ss_cons (s1_asg (ee_call G_divide (ea_cons (ee_var 6) (ea_cons (ee_var 2) ea_nil))) (gg_tup (n := 2) (lenT2) (ggs_cons (gg_name 6) (ggs_cons (gg_name 8) ggs_nil))))
  (ss_one (s1_set 4 (ee_add (ee_lst (ea_cons (ee_var 8) ea_nil)) (ee_var 4))))))
  (ss_one (s1_ret (ee_var 4))))))),
      fun ds r h e => by rw [e]; exact pure_tops_over py ds r h⟩

abbrev s_taken_apart : Stmt := topS 40
theorem sc_taken_apart : FnScope ["one", "told", "found", "whole", "top", "part", "power", "tops", "k"] ["one", "told"] (defScope s_taken_apart) := ⟨rfl, rfl, rfl, by decide +kernel, rfl, by decide +kernel, by decide +kernel⟩
theorem fn_taken_apart {f : Addr} {fd : FuncData} (F : Fun K "taken_apart" "taken_apart" s_taken_apart f fd) (Z : Bi mg) (hpy : py → PyOk P w K mg base) (G_divide : Cl P w K mg base cl 38 "divide" (R_divide py)) (G_parts_of : Cl P w K mg base cl 41 "parts_of" (R_parts_of py)) (G_tops_over : Cl P w K mg base cl 41 "tops_over" (R_tops_over py)) : FnOk P w K mg base (L2.CX P w) 42 f fd ["one", "told"] (spR K cl (R_taken_apart py)) :=
  mk_fn F sc_taken_apart (len_taken_apart py) <| fun f cdv A outer s H E F' hr ps hcl hB => by
    subst hcl
    exact ⟨w_taken_apart F'.Ex py, (ss_cons (s1_asg (ee_call G_divide (ea_cons (ee_ix (ee_var 0) ee_int) (ea_cons (ee_ix (ee_var 0) ee_int) ea_nil))) (gg_tup (n := 2) (lenT2) (ggs_cons (gg_name 3) (ggs_cons (gg_name 4) ggs_nil))))
  (ss_cons (s1_set 2 (ee_lst ea_nil))
  (ss_cons (s1_for hB (ei_list (ee_call G_parts_of (ea_cons (ee_ix (ee_var 0) ee_int) (ea_cons (ee_var 1) ea_nil)))) (gg_tup (n := 2) (lenT2) (ggs_cons (gg_name 5) (ggs_cons (gg_name 6) ggs_nil)))
  (ss_cons (s1_set 7 (ee_call G_tops_over (ea_cons (ee_var 4) (ea_cons (ee_ix (ee_var 0) ee_int) (ea_cons (ee_var 5) (ea_cons (ee_var 6) ea_nil))))))
  (ss_one (s1_set 2 (ee_add (ee_var 2) (ee_l (el_lc (own := [("k", 8)]) (ei_r1 Z.range (ea_cons (ee_var 6) ea_nil)) (gg_name 8) (ets_one (et_gt (ee_len Z.len (ee_ix (ee_var 7) (ee_var 8))) ee_int)) (ee_tup (ea_cons (ee_ix (ee_var 7) (ee_var 8)) (ea_cons (ee_var 5) (ea_cons (ee_add (ee_var 8) ee_int) ea_nil)))) (fun _ => blkOk_by (show blkC ["one", "told", "found", "whole", "top", "part", "power", "tops", "k"] (defScope s_taken_apart) _ _ = true from by decide +kernel)))))))))
  (ss_one (s1_ret (ee_tup (ea_cons (ee_var 3) (ea_cons (ee_var 2) ea_nil)))))))),
      fun ds r h e => by rw [e]; exact pure_taken_apart py ds r h⟩

abbrev s_apart : Stmt := topS 41
theorem sc_apart : FnScope ["one", "told"] ["one", "told"] (defScope s_apart) := ⟨rfl, rfl, rfl, by decide +kernel, rfl, by decide +kernel, by decide +kernel⟩
theorem fn_apart {f : Addr} {fd : FuncData} (F : Fun K "apart" "apart" s_apart f fd) (Z : Bi mg) (hpy : py → PyOk P w K mg base) (G_need_quotients : Cl P w K mg base cl 42 "need_quotients" (R_need_quotients py)) (G_need_rows : Cl P w K mg base cl 37 "need_rows" (R_need_rows py)) (G_taken_apart : Cl P w K mg base cl 42 "taken_apart" (R_taken_apart py)) : FnOk P w K mg base (L2.CX P w) 43 f fd ["one", "told"] (spR K cl (R_apart py)) :=
  mk_fn F sc_apart (len_apart py) <| fun f cdv A outer s H E F' hr ps hcl hB => by
    subst hcl
    exact ⟨w_apart F'.Ex py, (ss_cons (s1_expr (ee_call G_need_quotients (ea_cons (ee_lst (ea_cons (ee_var 0) ea_nil)) ea_nil)))
  (ss_cons (s1_expr (ee_call G_need_rows (ea_cons (ee_var 1) ea_nil)))
  (ss_one (s1_ret (ee_call G_taken_apart (ea_cons (ee_var 0) (ea_cons (ee_var 1) ea_nil))))))),
      fun ds r h e => by rw [e]; exact pure_apart py ds r h⟩

abbrev s__law_cell_at : Stmt := topS 43
theorem sc__law_cell_at : FnScope ["_law_script", "_law_k"] ["_law_script", "_law_k"] (defScope s__law_cell_at) := ⟨rfl, rfl, rfl, by decide +kernel, rfl, by decide +kernel, by decide +kernel⟩
theorem fn__law_cell_at {f : Addr} {fd : FuncData} (F : Fun K "_law_cell_at" "_law_cell_at" s__law_cell_at f fd) (Z : Bi mg) (hpy : py → PyOk P w K mg base) : FnOk P w K mg base (L2.CX P w) 34 f fd ["_law_script", "_law_k"] (spS K (R_cell)) :=
  mk_scr (cl := fun _ => 0) F sc__law_cell_at len__law_cell_at <| fun f cdv A outer s H E F' hr ps hcl hB => by
    exact ⟨w__law_cell_at F'.Ex py, (ss_cons (s1_if (et_lt (ee_var 1) (ee_lenO 0 Z.len))
  (ss_one (s1_ret (ee_scr 0 (ee_var 1))))
  ss_nil)
  (ss_one (s1_ret ee_int))),
      fun ns ds d h => pure__law_cell_at py _ ns ds d h⟩

abbrev s__law_stream : Stmt := topS 44
theorem sc__law_stream : FnScope ["_law_cell", "_law_many_here", "_law_found", "_law_number_here", "_law_k"] ["_law_cell", "_law_many_here"] (defScope s__law_stream) := ⟨rfl, rfl, rfl, by decide +kernel, rfl, by decide +kernel, by decide +kernel⟩
theorem fn__law_stream {f : Addr} {fd : FuncData} (F : Fun K "_law_stream" "_law_stream" s__law_stream f fd) (Z : Bi mg) (hpy : py → PyOk P w K mg base) : FnOk P w K mg base (L2.CX P w) 34 f fd ["_law_cell", "_law_many_here"] (spR K cl (R__law_stream py)) :=
  mk_fn F sc__law_stream (len__law_stream py) <| fun f cdv A outer s H E F' hr ps hcl hB => by
    subst hcl
    exact ⟨w__law_stream F'.Ex py, (ss_cons (s1_setL 2 (el_lst ea_nil))
  (ss_cons (s1_set 3 (ee_add (ee_mod (ee_var 0) ee_int) ee_int))
  (ss_cons (s1_for hB (ei_r1 Z.range (ea_cons (ee_add (ee_var 1) ee_int) ea_nil)) (gg_name 4)
  (ss_cons (s1_set 3 (ee_mod (ee_add (ee_add (ee_mul (ee_var 3) (ee_var 3)) (ee_mul ee_int (ee_var 3))) (ee_var 4)) ee_int))
  (ss_one (s1_app 2 (ee_var 3)))))
  (ss_one (s1_frz 2 (s1_ret (ee_sl (ee_var 2) (eo_some ee_int) eo_no))))))),
      fun ds r h e => by rw [e]; exact pure__law_stream py ds r h⟩

abbrev s__law_divisor : Stmt := topS 45
theorem sc__law_divisor : FnScope ["_law_one", "_law_other"] ["_law_one", "_law_other"] (defScope s__law_divisor) := ⟨rfl, rfl, rfl, by decide +kernel, rfl, by decide +kernel, by decide +kernel⟩
theorem fn__law_divisor {f : Addr} {fd : FuncData} (F : Fun K "_law_divisor" "_law_divisor" s__law_divisor f fd) (Z : Bi mg) (hpy : py → PyOk P w K mg base) : FnOk P w K mg base (L2.CX P w) 34 f fd ["_law_one", "_law_other"] (spR K cl (R__law_divisor py)) :=
  mk_fn F sc__law_divisor (len__law_divisor py) <| fun f cdv A outer s H E F' hr ps hcl hB => by
    subst hcl
    exact ⟨w__law_divisor F'.Ex py, (ss_cons (s1_while hB (et_gt (ee_var 0) ee_int)
  (ss_one (s1_par 0 1 (ea_cons (ee_mod (ee_var 1) (ee_var 0)) (ea_cons (ee_var 0) ea_nil)))))
  (ss_one (s1_ret (ee_var 1)))),
      fun ds r h e => by rw [e]; exact pure__law_divisor py ds r h⟩

abbrev s__law_fraction : Stmt := topS 46
theorem sc__law_fraction : FnScope ["_law_top", "_law_bottom_here", "_law_by"] ["_law_top", "_law_bottom_here"] (defScope s__law_fraction) := ⟨rfl, rfl, rfl, by decide +kernel, rfl, by decide +kernel, by decide +kernel⟩
theorem fn__law_fraction {f : Addr} {fd : FuncData} (F : Fun K "_law_fraction" "_law_fraction" s__law_fraction f fd) (Z : Bi mg) (hpy : py → PyOk P w K mg base) (G__law_divisor : Cl P w K mg base cl 34 "_law_divisor" (R__law_divisor py)) : FnOk P w K mg base (L2.CX P w) 35 f fd ["_law_top", "_law_bottom_here"] (spR K cl (R__law_fraction py)) :=
  mk_fn F sc__law_fraction (len__law_fraction py) <| fun f cdv A outer s H E F' hr ps hcl hB => by
    have hpy := fun z => (hpy z).body (nd := sc__law_fraction.nd) f cdv A outer s H E F' hr ps
    subst hcl
    exact ⟨w__law_fraction F'.Ex py, (ss_cons (s1_if (et_lt (ee_var 1) ee_int)
  (ss_cons (s1_set 0 (ee_neg (ee_var 0)))
  (ss_one (s1_set 1 (ee_neg (ee_var 1)))))
  ss_nil)
  (ss_cons (s1_set 2 (ee_call G__law_divisor (ea_cons (ee_abs Z.abs (ea_cons (ee_var 0) ea_nil)) (ea_cons (ee_var 1) ea_nil))))
  (ss_one (s1_ret (ee_tup (ea_cons (ee_fdiv hpy (ee_var 0) (ee_var 2)) (ea_cons (ee_fdiv hpy (ee_var 1) (ee_var 2)) ea_nil))))))),
      fun ds r h e => by rw [e]; exact pure__law_fraction py ds r h⟩

abbrev s__law_sum : Stmt := topS 47
theorem sc__law_sum : FnScope ["_law_one", "_law_other"] ["_law_one", "_law_other"] (defScope s__law_sum) := ⟨rfl, rfl, rfl, by decide +kernel, rfl, by decide +kernel, by decide +kernel⟩
theorem fn__law_sum {f : Addr} {fd : FuncData} (F : Fun K "_law_sum" "_law_sum" s__law_sum f fd) (Z : Bi mg) (hpy : py → PyOk P w K mg base) (G__law_fraction : Cl P w K mg base cl 35 "_law_fraction" (R__law_fraction py)) : FnOk P w K mg base (L2.CX P w) 36 f fd ["_law_one", "_law_other"] (spR K cl (R__law_sum py)) :=
  mk_fn F sc__law_sum (len__law_sum py) <| fun f cdv A outer s H E F' hr ps hcl hB => by
    subst hcl
    exact ⟨w__law_sum F'.Ex py, (ss_one (s1_ret (ee_call G__law_fraction (ea_cons (ee_add (ee_mul (ee_ix (ee_var 0) ee_int) (ee_ix (ee_var 1) ee_int)) (ee_mul (ee_ix (ee_var 1) ee_int) (ee_ix (ee_var 0) ee_int))) (ea_cons (ee_mul (ee_ix (ee_var 0) ee_int) (ee_ix (ee_var 1) ee_int)) ea_nil))))),
      fun ds r h e => by rw [e]; exact pure__law_sum py ds r h⟩

abbrev s__law_product : Stmt := topS 48
theorem sc__law_product : FnScope ["_law_one", "_law_other"] ["_law_one", "_law_other"] (defScope s__law_product) := ⟨rfl, rfl, rfl, by decide +kernel, rfl, by decide +kernel, by decide +kernel⟩
theorem fn__law_product {f : Addr} {fd : FuncData} (F : Fun K "_law_product" "_law_product" s__law_product f fd) (Z : Bi mg) (hpy : py → PyOk P w K mg base) (G__law_fraction : Cl P w K mg base cl 35 "_law_fraction" (R__law_fraction py)) : FnOk P w K mg base (L2.CX P w) 36 f fd ["_law_one", "_law_other"] (spR K cl (R__law_product py)) :=
  mk_fn F sc__law_product (len__law_product py) <| fun f cdv A outer s H E F' hr ps hcl hB => by
    subst hcl
    exact ⟨w__law_product F'.Ex py, (ss_one (s1_ret (ee_call G__law_fraction (ea_cons (ee_mul (ee_ix (ee_var 0) ee_int) (ee_ix (ee_var 1) ee_int)) (ea_cons (ee_mul (ee_ix (ee_var 0) ee_int) (ee_ix (ee_var 1) ee_int)) ea_nil))))),
      fun ds r h e => by rw [e]; exact pure__law_product py ds r h⟩

abbrev s__law_trim : Stmt := topS 49
theorem sc__law_trim : FnScope ["_law_row"] ["_law_row"] (defScope s__law_trim) := ⟨rfl, rfl, rfl, by decide +kernel, rfl, by decide +kernel, by decide +kernel⟩
theorem fn__law_trim {f : Addr} {fd : FuncData} (F : Fun K "_law_trim" "_law_trim" s__law_trim f fd) (Z : Bi mg) (hpy : py → PyOk P w K mg base) : FnOk P w K mg base (L2.CX P w) 34 f fd ["_law_row"] (spR K cl (R__law_trim py)) :=
  mk_fn F sc__law_trim (len__law_trim py) <| fun f cdv A outer s H E F' hr ps hcl hB => by
    subst hcl
    exact ⟨w__law_trim F'.Ex py, (ss_cons (s1_while hB (ew_pt (ew_and (et_gt (ee_len Z.len (ee_var 0)) ee_int) (ew_and1 (et_eq (ee_ix (ee_ix (ee_var 0) (ee_neg ee_int)) ee_int) ee_int))))
  (ss_one (s1_set 0 (ee_sl (ee_var 0) eo_no (eo_some (ee_neg ee_int))))))
  (ss_one (s1_ret (ee_tuple Z.tuple (ea_cons (ee_var 0) ea_nil))))),
      fun ds r h e => by rw [e]; exact pure__law_trim py ds r h⟩

abbrev s__law_plus : Stmt := topS 50
theorem sc__law_plus : FnScope ["_law_one", "_law_other", "_law_size", "_law_x", "_law_y"] ["_law_one", "_law_other"] (defScope s__law_plus) := ⟨rfl, rfl, rfl, by decide +kernel, rfl, by decide +kernel, by decide +kernel⟩
theorem fn__law_plus {f : Addr} {fd : FuncData} (F : Fun K "_law_plus" "_law_plus" s__law_plus f fd) (Z : Bi mg) (hpy : py → PyOk P w K mg base) (G__law_trim : Cl P w K mg base cl 34 "_law_trim" (R__law_trim py)) (G__law_sum : Cl P w K mg base cl 36 "_law_sum" (R__law_sum py)) : FnOk P w K mg base (L2.CX P w) 37 f fd ["_law_one", "_law_other"] (spR K cl (R__law_plus py)) :=
  mk_fn F sc__law_plus (len__law_plus py) <| fun f cdv A outer s H E F' hr ps hcl hB => by
    subst hcl
    exact ⟨w__law_plus F'.Ex py, (ss_cons (s1_set 2 (ee_max Z.max (ea_cons (ee_len Z.len (ee_var 0)) (ea_cons (ee_len Z.len (ee_var 1)) ea_nil))))
  (ss_cons (s1_set 0 (ee_add (ee_list Z.list (ea_cons (ee_var 0) ea_nil)) (ee_mul (ee_lst (ea_cons (ee_tup (ea_cons ee_int (ea_cons ee_int ea_nil))) ea_nil)) (ee_sub (ee_var 2) (ee_len Z.len (ee_var 0))))))
  (ss_cons (s1_set 1 (ee_add (ee_list Z.list (ea_cons (ee_var 1) ea_nil)) (ee_mul (ee_lst (ea_cons (ee_tup (ea_cons ee_int (ea_cons ee_int ea_nil))) ea_nil)) (ee_sub (ee_var 2) (ee_len Z.len (ee_var 1))))))
  (ss_one (s1_ret (ee_call G__law_trim (ea_cons (ee_l (el_lc (own := [("_law_x", 3), ("_law_y", 4)]) (ei_zip Z.zip (ea_cons (ee_var 0) (ea_cons (ee_var 1) ea_nil))) (gg_tup (n := 2) (lenT2) (ggs_cons (gg_name 3) (ggs_cons (gg_name 4) ggs_nil))) ets_nil (ee_call G__law_sum (ea_cons (ee_var 3) (ea_cons (ee_var 4) ea_nil))) (fun _ => blkOk_by (show blkC ["_law_one", "_law_other", "_law_size", "_law_x", "_law_y"] (defScope s__law_plus) _ _ = true from by decide +kernel)))) ea_nil))))))),
      fun ds r h e => by rw [e]; exact pure__law_plus py ds r h⟩

abbrev s__law_scale : Stmt := topS 51
theorem sc__law_scale : FnScope ["_law_row", "_law_number_here", "_law_part"] ["_law_row", "_law_number_here"] (defScope s__law_scale) := ⟨rfl, rfl, rfl, by decide +kernel, rfl, by decide +kernel, by decide +kernel⟩
theorem fn__law_scale {f : Addr} {fd : FuncData} (F : Fun K "_law_scale" "_law_scale" s__law_scale f fd) (Z : Bi mg) (hpy : py → PyOk P w K mg base) (G__law_trim : Cl P w K mg base cl 34 "_law_trim" (R__law_trim py)) (G__law_product : Cl P w K mg base cl 36 "_law_product" (R__law_product py)) : FnOk P w K mg base (L2.CX P w) 37 f fd ["_law_row", "_law_number_here"] (spR K cl (R__law_scale py)) :=
  mk_fn F sc__law_scale (len__law_scale py) <| fun f cdv A outer s H E F' hr ps hcl hB => by
    subst hcl
    exact ⟨w__law_scale F'.Ex py, (ss_one (s1_ret (ee_call G__law_trim (ea_cons (ee_l (el_lc (own := [("_law_part", 2)]) (ei_tup (ee_var 0)) (gg_name 2) ets_nil (ee_call G__law_product (ea_cons (ee_var 2) (ea_cons (ee_var 1) ea_nil))) (fun _ => blkOk_by (show blkC ["_law_row", "_law_number_here", "_law_part"] (defScope s__law_scale) _ _ = true from by decide +kernel)))) ea_nil)))),
      fun ds r h e => by rw [e]; exact pure__law_scale py ds r h⟩

abbrev s__law_times : Stmt := topS 52
theorem sc__law_times : FnScope ["_law_one", "_law_other", "_law_found", "_law_k"] ["_law_one", "_law_other"] (defScope s__law_times) := ⟨rfl, rfl, rfl, by decide +kernel, rfl, by decide +kernel, by decide +kernel⟩
theorem fn__law_times {f : Addr} {fd : FuncData} (F : Fun K "_law_times" "_law_times" s__law_times f fd) (Z : Bi mg) (hpy : py → PyOk P w K mg base) (G__law_plus : Cl P w K mg base cl 37 "_law_plus" (R__law_plus py)) (G__law_scale : Cl P w K mg base cl 37 "_law_scale" (R__law_scale py)) : FnOk P w K mg base (L2.CX P w) 38 f fd ["_law_one", "_law_other"] (spR K cl (R__law_times py)) :=
  mk_fn F sc__law_times (len__law_times py) <| fun f cdv A outer s H E F' hr ps hcl hB => by
    subst hcl
    exact ⟨w__law_times F'.Ex py, (ss_cons (s1_set 2 (ee_tup ea_nil))
  (ss_cons (s1_for hB (ei_r1 Z.range (ea_cons (ee_len Z.len (ee_var 0)) ea_nil)) (gg_name 3)
  (ss_one (s1_set 2 (ee_call G__law_plus (ea_cons (ee_var 2) (ea_cons (ee_add (ee_mulT (ee_tup (ea_cons (ee_tup (ea_cons ee_int (ea_cons ee_int ea_nil))) ea_nil)) (ee_var 3)) (ee_call G__law_scale (ea_cons (ee_var 1) (ea_cons (ee_ix (ee_var 0) (ee_var 3)) ea_nil)))) ea_nil))))))
  (ss_one (s1_ret (ee_var 2))))),
      fun ds r h e => by rw [e]; exact pure__law_times py ds r h⟩

abbrev s__law_power : Stmt := topS 53
theorem sc__law_power : FnScope ["_law_row", "_law_power_here", "_law_found", "_law_k"] ["_law_row", "_law_power_here"] (defScope s__law_power) := ⟨rfl, rfl, rfl, by decide +kernel, rfl, by decide +kernel, by decide +kernel⟩
theorem fn__law_power {f : Addr} {fd : FuncData} (F : Fun K "_law_power" "_law_power" s__law_power f fd) (Z : Bi mg) (hpy : py → PyOk P w K mg base) (G__law_times : Cl P w K mg base cl 38 "_law_times" (R__law_times py)) : FnOk P w K mg base (L2.CX P w) 39 f fd ["_law_row", "_law_power_here"] (spR K cl (R__law_power py)) :=
  mk_fn F sc__law_power (len__law_power py) <| fun f cdv A outer s H E F' hr ps hcl hB => by
    subst hcl
    exact ⟨w__law_power F'.Ex py, (ss_cons (s1_set 2 (ee_tup (ea_cons (ee_tup (ea_cons ee_int (ea_cons ee_int ea_nil))) ea_nil)))
  (ss_cons (s1_for hB (ei_r1 Z.range (ea_cons (ee_var 1) ea_nil)) (gg_name 3)
  (ss_one (s1_set 2 (ee_call G__law_times (ea_cons (ee_var 2) (ea_cons (ee_var 0) ea_nil))))))
  (ss_one (s1_ret (ee_var 2))))),
      fun ds r h e => by rw [e]; exact pure__law_power py ds r h⟩

abbrev s__law_divide : Stmt := topS 54
theorem sc__law_divide : FnScope ["_law_one", "_law_other", "_law_whole", "_law_by", "_law_piece"] ["_law_one", "_law_other"] (defScope s__law_divide) := ⟨rfl, rfl, rfl, by decide +kernel, rfl, by decide +kernel, by decide +kernel⟩
theorem fn__law_divide {f : Addr} {fd : FuncData} (F : Fun K "_law_divide" "_law_divide" s__law_divide f fd) (Z : Bi mg) (hpy : py → PyOk P w K mg base) (G__law_fraction : Cl P w K mg base cl 35 "_law_fraction" (R__law_fraction py)) (G__law_plus : Cl P w K mg base cl 37 "_law_plus" (R__law_plus py)) (G__law_scale : Cl P w K mg base cl 37 "_law_scale" (R__law_scale py)) (G__law_times : Cl P w K mg base cl 38 "_law_times" (R__law_times py)) : FnOk P w K mg base (L2.CX P w) 39 f fd ["_law_one", "_law_other"] (spR K cl (R__law_divide py)) :=
  mk_fn F sc__law_divide (len__law_divide py) <| fun f cdv A outer s H E F' hr ps hcl hB => by
    subst hcl
    exact ⟨w__law_divide F'.Ex py, (ss_cons (s1_set 2 (ee_tup ea_nil))
  (ss_cons (s1_while hB (et_ge (ee_len Z.len (ee_var 0)) (ee_len Z.len (ee_var 1)))
  (ss_cons (s1_set 3 (ee_call G__law_fraction (ea_cons (ee_mul (ee_ix (ee_ix (ee_var 0) (ee_neg ee_int)) ee_int) (ee_ix (ee_ix (ee_var 1) (ee_neg ee_int)) ee_int)) (ea_cons (ee_mul (ee_ix (ee_ix (ee_var 0) (ee_neg ee_int)) ee_int) (ee_ix (ee_ix (ee_var 1) (ee_neg ee_int)) ee_int)) ea_nil))))
  (ss_cons (s1_set 4 (ee_add (ee_mulT (ee_tup (ea_cons (ee_tup (ea_cons ee_int (ea_cons ee_int ea_nil))) ea_nil)) (ee_sub (ee_len Z.len (ee_var 0)) (ee_len Z.len (ee_var 1)))) (ee_tup (ea_cons (ee_var 3) ea_nil))))
  (ss_cons (s1_set 2 (ee_call G__law_plus (ea_cons (ee_var 2) (ea_cons (ee_var 4) ea_nil))))
  (ss_one (s1_set 0 (ee_call G__law_plus (ea_cons (ee_var 0) (ea_cons (ee_call G__law_scale (ea_cons (ee_call G__law_times (ea_cons (ee_var 4) (ea_cons (ee_var 1) ea_nil))) (ea_cons (ee_tup (ea_cons (ee_neg ee_int) (ea_cons ee_int ea_nil))) ea_nil))) ea_nil)))))))))
  (ss_one (s1_ret (ee_tup (ea_cons (ee_var 2) (ea_cons (ee_var 0) ea_nil))))))),
      fun ds r h e => by rw [e]; exact pure__law_divide py ds r h⟩

abbrev s__law_number : Stmt := topS 55
theorem sc__law_number : FnScope ["_law_x"] ["_law_x"] (defScope s__law_number) := ⟨rfl, rfl, rfl, by decide +kernel, rfl, by decide +kernel, by decide +kernel⟩
theorem fn__law_number {f : Addr} {fd : FuncData} (F : Fun K "_law_number" "_law_number" s__law_number f fd) (Z : Bi mg) (hpy : py → PyOk P w K mg base) (G__law_fraction : Cl P w K mg base cl 35 "_law_fraction" (R__law_fraction py)) : FnOk P w K mg base (L2.CX P w) 36 f fd ["_law_x"] (spR K cl (R__law_number py)) :=
  mk_fn F sc__law_number (len__law_number py) <| fun f cdv A outer s H E F' hr ps hcl hB => by
    have hpy := fun z => (hpy z).body (nd := sc__law_number.nd) f cdv A outer s H E F' hr ps
    subst hcl
    exact ⟨w__law_number F'.Ex py, (ss_cons (s1_if (et_lt (ee_mod (ee_var 0) ee_int) ee_int)
  (ss_one (s1_ret (ee_tup (ea_cons (ee_sub (ee_mod (ee_fdiv hpy (ee_var 0) ee_int) ee_int) ee_int) (ea_cons ee_int ea_nil)))))
  ss_nil)
  (ss_cons (s1_if (et_gt (ee_mod (ee_fdiv hpy (ee_var 0) ee_int) ee_int) ee_int)
  (ss_one (s1_ret (ee_call G__law_fraction (ea_cons (ee_sub (ee_mod (ee_fdiv hpy (ee_var 0) ee_int) ee_int) ee_int) (ea_cons (ee_add ee_int (ee_mod (ee_fdiv hpy (ee_var 0) ee_int) ee_int)) ea_nil)))))
  ss_nil)
  (ss_one (s1_ret (ee_call G__law_fraction (ea_cons (ee_sub (ee_mod (ee_fdiv hpy (ee_mul (ee_var 0) (ee_var 0)) ee_int) ee_int) ee_int) (ea_cons (ee_add ee_int (ee_mod (ee_fdiv hpy (ee_var 0) ee_int) (ee_ix (ee_lst (ea_cons ee_int (ea_cons ee_int ea_nil))) (ee_mod (ee_fdiv hpy (ee_var 0) ee_int) ee_int)))) ea_nil))))))),
      fun ds r h e => by rw [e]; exact pure__law_number py ds r h⟩

abbrev s__law_row_by : Stmt := topS 56
theorem sc__law_row_by : FnScope ["_law_x", "_law_most", "_law_xs", "_law_k"] ["_law_x", "_law_most"] (defScope s__law_row_by) := ⟨rfl, rfl, rfl, by decide +kernel, rfl, by decide +kernel, by decide +kernel⟩
theorem fn__law_row_by {f : Addr} {fd : FuncData} (F : Fun K "_law_row_by" "_law_row_by" s__law_row_by f fd) (Z : Bi mg) (hpy : py → PyOk P w K mg base) (G__law_stream : Cl P w K mg base cl 34 "_law_stream" (R__law_stream py)) (G__law_trim : Cl P w K mg base cl 34 "_law_trim" (R__law_trim py)) (G__law_number : Cl P w K mg base cl 36 "_law_number" (R__law_number py)) : FnOk P w K mg base (L2.CX P w) 37 f fd ["_law_x", "_law_most"] (spR K cl (R__law_row_by py)) :=
  mk_fn F sc__law_row_by (len__law_row_by py) <| fun f cdv A outer s H E F' hr ps hcl hB => by
    subst hcl
    exact ⟨w__law_row_by F'.Ex py, (ss_cons (s1_set 2 (ee_call G__law_stream (ea_cons (ee_var 0) (ea_cons (ee_add (ee_var 1) ee_int) ea_nil))))
  (ss_one (s1_ret (ee_call G__law_trim (ea_cons (ee_l (el_lc (own := [("_law_k", 3)]) (ei_r1 Z.range (ea_cons (ee_mod (ee_ix (ee_var 2) ee_int) (ee_add (ee_var 1) ee_int)) ea_nil)) (gg_name 3) ets_nil (ee_call G__law_number (ea_cons (ee_ix (ee_var 2) (ee_add ee_int (ee_var 3))) ea_nil)) (fun _ => blkOk_by (show blkC ["_law_x", "_law_most", "_law_xs", "_law_k"] (defScope s__law_row_by) _ _ = true from by decide +kernel)))) ea_nil))))),
      fun ds r h e => by rw [e]; exact pure__law_row_by py ds r h⟩

abbrev s__law_factors : Stmt := topS 57
theorem sc__law_factors : FnScope ["_law_x", "_law_many_here", "_law_xs", "_law_low", "_law_found", "_law_k", "_law_at", "_law_number_here", "_law_low_end", "_law_square", "_law_row"] ["_law_x", "_law_many_here"] (defScope s__law_factors) := ⟨rfl, rfl, rfl, by decide +kernel, rfl, by decide +kernel, by decide +kernel⟩
theorem fn__law_factors {f : Addr} {fd : FuncData} (F : Fun K "_law_factors" "_law_factors" s__law_factors f fd) (Z : Bi mg) (hpy : py → PyOk P w K mg base) (G__law_stream : Cl P w K mg base cl 34 "_law_stream" (R__law_stream py)) (G__law_fraction : Cl P w K mg base cl 35 "_law_fraction" (R__law_fraction py)) (G__law_sum : Cl P w K mg base cl 36 "_law_sum" (R__law_sum py)) (G__law_product : Cl P w K mg base cl 36 "_law_product" (R__law_product py)) (G__law_trim : Cl P w K mg base cl 34 "_law_trim" (R__law_trim py)) : FnOk P w K mg base (L2.CX P w) 37 f fd ["_law_x", "_law_many_here"] (spR K cl (R__law_factors py)) :=
  mk_fn F sc__law_factors (len__law_factors py) <| fun f cdv A outer s H E F' hr ps hcl hB => by
    have hpy := fun z => (hpy z).body (nd := sc__law_factors.nd) f cdv A outer s H E F' hr ps
    subst hcl
    exact ⟨w__law_factors F'.Ex py, (ss_cons (s1_set 2 (ee_call G__law_stream (ea_cons (ee_var 0) (ea_cons (ee_add ee_int (ee_var 1)) ea_nil))))
  (ss_cons (s1_set 3 (ee_add ee_int (ee_mod (ee_ix (ee_var 2) ee_int) ee_int)))
  (ss_cons (s1_setL 4 (el_lst ea_nil))
  (ss_cons (s1_for hB (ei_r1 Z.range (ea_cons (ee_var 1) ea_nil)) (gg_name 5)
  (ss_cons (s1_set 6 (ee_call G__law_fraction (ea_cons (ee_add (ee_sub (ee_mod (ee_ix (ee_var 2) ee_int) ee_int) ee_int) (ee_mul (ee_mul (ee_add ee_int (ee_mod (ee_ix (ee_var 2) ee_int) ee_int)) (ee_var 5)) (ee_var 3))) (ea_cons (ee_var 3) ea_nil))))
  (ss_one (s1_if (et_eq (ee_mod (ee_ix (ee_var 2) (ee_add ee_int (ee_var 5))) ee_int) ee_int)
  (ss_cons (s1_set 7 (ee_ix (ee_lst (ea_cons ee_int (ea_cons ee_int (ea_cons ee_int (ea_cons ee_int (ea_cons ee_int (ea_cons ee_int (ea_cons (ee_neg ee_int) (ea_cons (ee_neg ee_int) (ea_cons (ee_neg ee_int) (ea_cons (ee_neg ee_int) (ea_cons (ee_neg ee_int) (ea_cons (ee_neg ee_int) ea_nil))))))))))))) (ee_mod (ee_fdiv hpy (ee_ix (ee_var 2) (ee_add ee_int (ee_var 5))) ee_int) ee_int)))
  (ss_cons (s1_set 8 (ee_call G__law_sum (ea_cons (ee_call G__law_product (ea_cons (ee_var 6) (ea_cons (ee_var 6) ea_nil))) (ea_cons (ee_tup (ea_cons (ee_var 7) (ea_cons ee_int ea_nil))) ea_nil))))
  (ss_one (s1_app 4 (ee_tup (ea_cons (ee_var 8) (ea_cons (ee_call G__law_product (ea_cons (ee_tup (ea_cons ee_int (ea_cons ee_int ea_nil))) (ea_cons (ee_var 6) ea_nil))) (ea_cons (ee_tup (ea_cons ee_int (ea_cons ee_int ea_nil))) ea_nil))))))))
  (ss_one (s1_if (et_eq (ee_mod (ee_ix (ee_var 2) (ee_add ee_int (ee_var 5))) ee_int) ee_int)
  (ss_cons (s1_set 9 (ee_call G__law_product (ea_cons (ee_var 6) (ea_cons (ee_var 6) ea_nil))))
  (ss_cons (s1_set 8 (ee_call G__law_sum (ea_cons (ee_call G__law_product (ea_cons (ee_var 9) (ea_cons (ee_var 6) ea_nil))) (ea_cons (ee_tup (ea_cons (ee_add ee_int (ee_mod (ee_fdiv hpy (ee_ix (ee_var 2) (ee_add ee_int (ee_var 5))) ee_int) ee_int)) (ea_cons ee_int ea_nil))) ea_nil))))
  (ss_one (s1_app 4 (ee_tup (ea_cons (ee_var 8) (ea_cons (ee_call G__law_product (ea_cons (ee_tup (ea_cons ee_int (ea_cons ee_int ea_nil))) (ea_cons (ee_var 9) ea_nil))) (ea_cons (ee_call G__law_product (ea_cons (ee_tup (ea_cons ee_int (ea_cons ee_int ea_nil))) (ea_cons (ee_var 6) ea_nil))) (ea_cons (ee_tup (ea_cons ee_int (ea_cons ee_int ea_nil))) ea_nil)))))))))
  (ss_one (s1_app 4 (ee_tup (ea_cons (ee_var 6) (ea_cons (ee_tup (ea_cons ee_int (ea_cons ee_int ea_nil))) ea_nil)))))))))))
  (ss_one (s1_frz 4 (s1_ret (ee_l (el_lc (own := [("_law_row", 10)]) (ei_list (ee_var 4)) (gg_name 10) ets_nil (ee_call G__law_trim (ea_cons (ee_var 10) ea_nil)) (fun _ => blkOk_by (show blkC ["_law_x", "_law_many_here", "_law_xs", "_law_low", "_law_found", "_law_k", "_law_at", "_law_number_here", "_law_low_end", "_law_square", "_law_row"] (defScope s__law_factors) _ _ = true from by decide +kernel))))))))))),
      fun ds r h e => by rw [e]; exact pure__law_factors py ds r h⟩

abbrev s__law_powers : Stmt := topS 58
theorem sc__law_powers : FnScope ["_law_x", "_law_rows", "_law_xs", "_law_room", "_law_powers_here", "_law_k", "_law_size", "_law_most"] ["_law_x", "_law_rows"] (defScope s__law_powers) := ⟨rfl, rfl, rfl, by decide +kernel, rfl, by decide +kernel, by decide +kernel⟩
theorem fn__law_powers {f : Addr} {fd : FuncData} (F : Fun K "_law_powers" "_law_powers" s__law_powers f fd) (Z : Bi mg) (hpy : py → PyOk P w K mg base) (G__law_stream : Cl P w K mg base cl 34 "_law_stream" (R__law_stream py)) : FnOk P w K mg base (L2.CX P w) 35 f fd ["_law_x", "_law_rows"] (spR K cl (R__law_powers py)) :=
  mk_fn F sc__law_powers (len__law_powers py) <| fun f cdv A outer s H E F' hr ps hcl hB => by
    have hpy := fun z => (hpy z).body (nd := sc__law_powers.nd) f cdv A outer s H E F' hr ps
    subst hcl
    exact ⟨w__law_powers F'.Ex py, (ss_cons (s1_set 2 (ee_call G__law_stream (ea_cons (ee_var 0) (ea_cons (ee_add (ee_len Z.len (ee_var 1)) ee_int) ea_nil))))
  (ss_cons (s1_set 3 (ee_ix (ee_lst (ea_cons ee_int (ea_cons ee_int ea_nil))) (ee_toint Z.int (ea_cons (ee_and (ee_eq (ee_mod (ee_ix (ee_var 2) ee_int) ee_int) ee_int) (ee_and (ee_eq (ee_len Z.len (ee_var 1)) ee_int) (ee_one (ee_eq (ee_len Z.len (ee_ix (ee_var 1) ee_int)) ee_int)))) ea_nil))))
  (ss_cons (s1_setL 4 (el_lst ea_nil))
  (ss_cons (s1_for hB (ei_r1 Z.range (ea_cons (ee_len Z.len (ee_var 1)) ea_nil)) (gg_name 5)
  (ss_cons (s1_set 6 (ee_sub (ee_len Z.len (ee_ix (ee_var 1) (ee_var 5))) ee_int))
  (ss_cons (s1_set 7 (ee_ix (ee_lst (ea_cons ee_int (ea_cons ee_int ea_nil))) (ee_toint Z.int (ea_cons (ee_eq (ee_mod (ee_ix (ee_var 2) ee_int) ee_int) ee_int) ea_nil))))
  (ss_cons (s1_app 4 (ee_max Z.max (ea_cons ee_int (ea_cons (ee_min Z.min (ea_cons (ee_add ee_int (ee_mod (ee_ix (ee_var 2) (ee_add ee_int (ee_var 5))) (ee_var 7))) (ea_cons (ee_fdiv hpy (ee_var 3) (ee_var 6)) ea_nil))) ea_nil))))
  (ss_one (s1_set 3 (ee_sub (ee_var 3) (ee_mul (ee_var 6) (ee_ixO 4 (ee_neg ee_int))))))))))
  (ss_one (s1_frz 4 (s1_ret (ee_var 4)))))))),
      fun ds r h e => by rw [e]; exact pure__law_powers py ds r h⟩

abbrev s__law_many : Stmt := topS 59
theorem sc__law_many : FnScope ["_law_x"] ["_law_x"] (defScope s__law_many) := ⟨rfl, rfl, rfl, by decide +kernel, rfl, by decide +kernel, by decide +kernel⟩
theorem fn__law_many {f : Addr} {fd : FuncData} (F : Fun K "_law_many" "_law_many" s__law_many f fd) (Z : Bi mg) (hpy : py → PyOk P w K mg base) : FnOk P w K mg base (L2.CX P w) 34 f fd ["_law_x"] (spR K cl (R__law_many py)) :=
  mk_fn F sc__law_many (len__law_many py) <| fun f cdv A outer s H E F' hr ps hcl hB => by
    subst hcl
    exact ⟨w__law_many F'.Ex py, (ss_one (s1_ret (ee_ix (ee_lst (ea_cons ee_int (ea_cons ee_int (ea_cons ee_int (ea_cons ee_int (ea_cons ee_int (ea_cons ee_int (ea_cons ee_int (ea_cons ee_int ea_nil))))))))) (ee_mod (ee_var 0) ee_int)))),
      fun ds r h e => by rw [e]; exact pure__law_many py ds r h⟩

abbrev s__law_bottom : Stmt := topS 60
theorem sc__law_bottom : FnScope ["_law_rows", "_law_powers_here", "_law_found", "_law_row", "_law_power_here"] ["_law_rows", "_law_powers_here"] (defScope s__law_bottom) := ⟨rfl, rfl, rfl, by decide +kernel, rfl, by decide +kernel, by decide +kernel⟩
theorem fn__law_bottom {f : Addr} {fd : FuncData} (F : Fun K "_law_bottom" "_law_bottom" s__law_bottom f fd) (Z : Bi mg) (hpy : py → PyOk P w K mg base) (G__law_times : Cl P w K mg base cl 38 "_law_times" (R__law_times py)) (G__law_power : Cl P w K mg base cl 39 "_law_power" (R__law_power py)) : FnOk P w K mg base (L2.CX P w) 40 f fd ["_law_rows", "_law_powers_here"] (spR K cl (R__law_bottom py)) :=
  mk_fn F sc__law_bottom (len__law_bottom py) <| fun f cdv A outer s H E F' hr ps hcl hB => by
    subst hcl
    exact ⟨w__law_bottom F'.Ex py, (ss_cons (s1_set 2 (ee_tup (ea_cons (ee_tup (ea_cons ee_int (ea_cons ee_int ea_nil))) ea_nil)))
  (ss_cons (s1_for hB (ei_zip Z.zip (ea_cons (ee_var 0) (ea_cons (ee_var 1) ea_nil))) (gg_tup (n := 2) (lenT2) (ggs_cons (gg_name 3) (ggs_cons (gg_name 4) ggs_nil)))
  (ss_one (s1_set 2 (ee_call G__law_times (ea_cons (ee_var 2) (ea_cons (ee_call G__law_power (ea_cons (ee_var 3) (ea_cons (ee_var 4) ea_nil))) ea_nil))))))
  (ss_one (s1_ret (ee_var 2))))),
      fun ds r h e => by rw [e]; exact pure__law_bottom py ds r h⟩

abbrev s__law_tops : Stmt := topS 61
theorem sc__law_tops : FnScope ["_law_x", "_law_row", "_law_power_here", "_law_tops_here", "_law_k", "_law_xs", "_law_top"] ["_law_x", "_law_row", "_law_power_here"] (defScope s__law_tops) := ⟨rfl, rfl, rfl, by decide +kernel, rfl, by decide +kernel, by decide +kernel⟩
theorem fn__law_tops {f : Addr} {fd : FuncData} (F : Fun K "_law_tops" "_law_tops" s__law_tops f fd) (Z : Bi mg) (hpy : py → PyOk P w K mg base) (G__law_stream : Cl P w K mg base cl 34 "_law_stream" (R__law_stream py)) (G__law_row_by : Cl P w K mg base cl 37 "_law_row_by" (R__law_row_by py)) : FnOk P w K mg base (L2.CX P w) 38 f fd ["_law_x", "_law_row", "_law_power_here"] (spR K cl (R__law_tops py)) :=
  mk_fn F sc__law_tops (len__law_tops py) <| fun f cdv A outer s H E F' hr ps hcl hB => by
    subst hcl
    exact ⟨w__law_tops F'.Ex py, (ss_cons (s1_setL 3 (el_lst ea_nil))
  (ss_cons (s1_for hB (ei_r1 Z.range (ea_cons (ee_var 2) ea_nil)) (gg_name 4)
  (ss_cons (s1_set 5 (ee_call G__law_stream (ea_cons (ee_add (ee_var 0) (ee_mul ee_int (ee_var 4))) (ea_cons ee_int ea_nil))))
  (ss_cons (s1_set 6 (ee_call G__law_row_by (ea_cons (ee_ix (ee_var 5) ee_int) (ea_cons (ee_sub (ee_len Z.len (ee_var 1)) ee_int) ea_nil))))
  (ss_cons (s1_if (et_eq (ee_mod (ee_ix (ee_var 5) ee_int) ee_int) ee_int)
  (ss_one (s1_set 6 (ee_tup ea_nil)))
  ss_nil)
  (ss_cons (s1_if (ew_pt (ew_and (et_eq (ee_var 4) (ee_sub (ee_var 2) ee_int)) (ew_and1 (et_eq (ee_var 6) (ee_tup ea_nil)))))
  (ss_one (s1_set 6 (ee_tup (ea_cons (ee_tup (ea_cons (ee_add ee_int (ee_mod (ee_ix (ee_var 5) ee_int) ee_int)) (ea_cons ee_int ea_nil))) ea_nil))))
  ss_nil)
  (ss_one (s1_app 3 (ee_var 6))))))))
  (ss_one (s1_frz 3 (s1_ret (ee_var 3)))))),
      fun ds r h e => by rw [e]; exact pure__law_tops py ds r h⟩

abbrev s_law : Stmt := topS 62
theorem sc_law : FnScope ["_law_script", "_law_xs", "_law_rows", "_law_powers_here", "_law_bottom_here", "_law_whole", "_law_top", "_law_due", "_law_k", "_law_pieces", "_law_tops_here", "_law_j", "_law_over", "_law_power_here", "_law_piece"] ["_law_script"] (defScope s_law) := ⟨rfl, rfl, rfl, by decide +kernel, rfl, by decide +kernel, by decide +kernel⟩
theorem fn_law {f : Addr} {fd : FuncData} (F : Fun K "law" "law" s_law f fd) (Z : Bi mg) (hpy : py → PyOk P w K mg base) (G__law_stream : Cl P w K mg base cl 34 "_law_stream" (R__law_stream py)) (G__law_cell_at : ClS P w K mg base 34 "_law_cell_at" R_cell) (G__law_factors : Cl P w K mg base cl 37 "_law_factors" (R__law_factors py)) (G__law_many : Cl P w K mg base cl 34 "_law_many" (R__law_many py)) (G__law_powers : Cl P w K mg base cl 35 "_law_powers" (R__law_powers py)) (G__law_bottom : Cl P w K mg base cl 40 "_law_bottom" (R__law_bottom py)) (G__law_row_by : Cl P w K mg base cl 37 "_law_row_by" (R__law_row_by py)) (G__law_times : Cl P w K mg base cl 38 "_law_times" (R__law_times py)) (G__law_tops : Cl P w K mg base cl 38 "_law_tops" (R__law_tops py)) (G__law_divide : Cl P w K mg base cl 39 "_law_divide" (R__law_divide py)) (G__law_power : Cl P w K mg base cl 39 "_law_power" (R__law_power py)) (G__law_plus : Cl P w K mg base cl 37 "_law_plus" (R__law_plus py)) (G_apart : Cl P w K mg base cl 43 "apart" (R_apart py)) (hp : py) : FnOk P w K mg base (L2.CX P w) 44 f fd ["_law_script"] (spS K (R_law)) :=
  mk_scr (cl := cl) F sc_law len_law <| fun f cdv A outer s H E F' hr ps hcl hB => by
    subst hcl
    exact ⟨w_law F'.Ex py, (ss_cons (s1_set 1 (ee_call G__law_stream (ea_cons (ee_cell 0 G__law_cell_at ee_int) (ea_cons ee_int ea_nil))))
  (ss_cons (s1_set 2 (ee_call G__law_factors (ea_cons (ee_ix (ee_var 1) ee_int) (ea_cons (ee_min Z.min (ea_cons ee_int (ea_cons (ee_call G__law_many (ea_cons (ee_ix (ee_var 1) ee_int) ea_nil)) ea_nil))) ea_nil))))
  (ss_cons (s1_set 3 (ee_call G__law_powers (ea_cons (ee_cell 0 G__law_cell_at ee_int) (ea_cons (ee_var 2) ea_nil))))
  (ss_cons (s1_set 4 (ee_call G__law_bottom (ea_cons (ee_var 2) (ea_cons (ee_var 3) ea_nil))))
  (ss_cons (s1_set 5 (ee_call G__law_row_by (ea_cons (ee_cell 0 G__law_cell_at ee_int) (ea_cons ee_int ea_nil))))
  (ss_cons (s1_set 6 (ee_call G__law_times (ea_cons (ee_var 5) (ea_cons (ee_var 4) ea_nil))))
  (ss_cons (s1_setL 7 (el_lst ea_nil))
  (ss_cons (s1_for hB (ei_r1 Z.range (ea_cons (ee_len Z.len (ee_var 2)) ea_nil)) (gg_name 8)
  (ss_cons (s1_set 10 (ee_call G__law_tops (ea_cons (ee_add (ee_cell 0 G__law_cell_at ee_int) (ee_mul ee_int (ee_var 8))) (ea_cons (ee_ix (ee_var 2) (ee_var 8)) (ea_cons (ee_ix (ee_var 3) (ee_var 8)) ea_nil)))))
  (ss_one (s1_for hB (ei_r1 Z.range (ea_cons (ee_ix (ee_var 3) (ee_var 8)) ea_nil)) (gg_name 11)
  (ss_cons (s1_set 12 (ee_ix (ee_call G__law_divide (ea_cons (ee_var 4) (ea_cons (ee_call G__law_power (ea_cons (ee_ix (ee_var 2) (ee_var 8)) (ea_cons (ee_add (ee_var 11) ee_int) ea_nil))) ea_nil))) ee_int))
  (ss_cons (s1_set 6 (ee_call G__law_plus (ea_cons (ee_var 6) (ea_cons (ee_call G__law_times (ea_cons (ee_ix (ee_var 10) (ee_var 11)) (ea_cons (ee_var 12) ea_nil))) ea_nil))))
  (ss_one (s1_if (et_ne (ee_ix (ee_var 10) (ee_var 11)) (ee_tup ea_nil))
  (ss_one (s1_app 7 (ee_tup (ea_cons (ee_ix (ee_var 3) (ee_var 8)) (ea_cons (ee_var 8) (ea_cons (ee_add (ee_var 11) ee_int) (ea_cons (ee_ix (ee_var 10) (ee_var 11)) ea_nil)))))))
  ss_nil))))))))
  (ss_cons (s1_frz 7 (s1_setLc 9 (own := [("_law_power_here", 13), ("_law_k", 8), ("_law_j", 11), ("_law_piece", 14)]) (ei_list (ee_sorted Z.sorted (ea_cons (ee_var 7) ea_nil))) (gg_tup (n := 4) (lenT4) (ggs_cons (gg_name 13) (ggs_cons (gg_name 8) (ggs_cons (gg_name 11) (ggs_cons (gg_name 14) ggs_nil))))) ets_nil (ee_tup (ea_cons (ee_var 14) (ea_cons (ee_ix (ee_var 2) (ee_var 8)) (ea_cons (ee_var 11) ea_nil)))) (fun _ => blkOk_by (show blkC ["_law_script", "_law_xs", "_law_rows", "_law_powers_here", "_law_bottom_here", "_law_whole", "_law_top", "_law_due", "_law_k", "_law_pieces", "_law_tops_here", "_law_j", "_law_over", "_law_power_here", "_law_piece"] (defScope s_law) _ _ = true from by decide +kernel))))
  (ss_one (s1_ret (ee_eq (ee_call G_apart (ea_cons (ee_tup (ea_cons (ee_var 6) (ea_cons (ee_var 4) ea_nil))) (ea_cons (ee_var 2) ea_nil))) (ee_tup (ea_cons (ee_var 5) (ea_cons (ee_var 9) ea_nil))))))))))))))),
      fun ns ds d h => pure_law py hp _ ns ds d h⟩

end
theorem all_mk {l : PySem.W.OpenLaw} {w : World} {K : PySem.W.Frag} {h : Heap} {mg : Str → Option Value} {fa f0 f1 f2 f3 f4 f5 f6 f7 f8 f9 f10 f11 f12 f13 f14 f15 f16 f17 f18 f19 f20 f21 f22 f23 f24 f25 f26 f27 f28 f29 f30 f31 f32 f33 f34 f35 f36 f37 f38 f39 f40 f41 f42 f43 f44 f45 f46 f47 f48 : Addr} (X : K.In h) (G : h.Ns mainGlobals mg) (hfa : mg "law" = some (.ref fa))
    {od0 an0 : Option Addr} {sl0 : Array (Option Value)} {oc0 kV0 dc0 pm0 cd0 ct0 : Value}
    {od1 an1 : Option Addr} {sl1 : Array (Option Value)} {oc1 kV1 dc1 pm1 cd1 ct1 : Value}
    {od2 an2 : Option Addr} {sl2 : Array (Option Value)} {oc2 kV2 dc2 pm2 cd2 ct2 : Value}
    {od3 an3 : Option Addr} {sl3 : Array (Option Value)} {oc3 kV3 dc3 pm3 cd3 ct3 : Value}
    {od4 an4 : Option Addr} {sl4 : Array (Option Value)} {oc4 kV4 dc4 pm4 cd4 ct4 : Value}
    {od5 an5 : Option Addr} {sl5 : Array (Option Value)} {oc5 kV5 dc5 pm5 cd5 ct5 : Value}
    {od6 an6 : Option Addr} {sl6 : Array (Option Value)} {oc6 kV6 dc6 pm6 cd6 ct6 : Value}
    {od7 an7 : Option Addr} {sl7 : Array (Option Value)} {oc7 kV7 dc7 pm7 cd7 ct7 : Value}
    {od8 an8 : Option Addr} {sl8 : Array (Option Value)} {oc8 kV8 dc8 pm8 cd8 ct8 : Value}
    {od9 an9 : Option Addr} {sl9 : Array (Option Value)} {oc9 kV9 dc9 pm9 cd9 ct9 : Value}
    {od10 an10 : Option Addr} {sl10 : Array (Option Value)} {oc10 kV10 dc10 pm10 cd10 ct10 : Value}
    {od11 an11 : Option Addr} {sl11 : Array (Option Value)} {oc11 kV11 dc11 pm11 cd11 ct11 : Value}
    {od12 an12 : Option Addr} {sl12 : Array (Option Value)} {oc12 kV12 dc12 pm12 cd12 ct12 : Value}
    {od13 an13 : Option Addr} {sl13 : Array (Option Value)} {oc13 kV13 dc13 pm13 cd13 ct13 : Value}
    {od14 an14 : Option Addr} {sl14 : Array (Option Value)} {oc14 kV14 dc14 pm14 cd14 ct14 : Value}
    {od15 an15 : Option Addr} {sl15 : Array (Option Value)} {oc15 kV15 dc15 pm15 cd15 ct15 : Value}
    {od16 an16 : Option Addr} {sl16 : Array (Option Value)} {oc16 kV16 dc16 pm16 cd16 ct16 : Value}
    {od17 an17 : Option Addr} {sl17 : Array (Option Value)} {oc17 kV17 dc17 pm17 cd17 ct17 : Value}
    {od18 an18 : Option Addr} {sl18 : Array (Option Value)} {oc18 kV18 dc18 pm18 cd18 ct18 : Value}
    {od19 an19 : Option Addr} {sl19 : Array (Option Value)} {oc19 kV19 dc19 pm19 cd19 ct19 : Value}
    {od20 an20 : Option Addr} {sl20 : Array (Option Value)} {oc20 kV20 dc20 pm20 cd20 ct20 : Value}
    {od21 an21 : Option Addr} {sl21 : Array (Option Value)} {oc21 kV21 dc21 pm21 cd21 ct21 : Value}
    {od22 an22 : Option Addr} {sl22 : Array (Option Value)} {oc22 kV22 dc22 pm22 cd22 ct22 : Value}
    {od23 an23 : Option Addr} {sl23 : Array (Option Value)} {oc23 kV23 dc23 pm23 cd23 ct23 : Value}
    {od24 an24 : Option Addr} {sl24 : Array (Option Value)} {oc24 kV24 dc24 pm24 cd24 ct24 : Value}
    {od25 an25 : Option Addr} {sl25 : Array (Option Value)} {oc25 kV25 dc25 pm25 cd25 ct25 : Value}
    {od26 an26 : Option Addr} {sl26 : Array (Option Value)} {oc26 kV26 dc26 pm26 cd26 ct26 : Value}
    {od27 an27 : Option Addr} {sl27 : Array (Option Value)} {oc27 kV27 dc27 pm27 cd27 ct27 : Value}
    {od28 an28 : Option Addr} {sl28 : Array (Option Value)} {oc28 kV28 dc28 pm28 cd28 ct28 : Value}
    {od29 an29 : Option Addr} {sl29 : Array (Option Value)} {oc29 kV29 dc29 pm29 cd29 ct29 : Value}
    {od30 an30 : Option Addr} {sl30 : Array (Option Value)} {oc30 kV30 dc30 pm30 cd30 ct30 : Value}
    {od31 an31 : Option Addr} {sl31 : Array (Option Value)} {oc31 kV31 dc31 pm31 cd31 ct31 : Value}
    {od32 an32 : Option Addr} {sl32 : Array (Option Value)} {oc32 kV32 dc32 pm32 cd32 ct32 : Value}
    {od33 an33 : Option Addr} {sl33 : Array (Option Value)} {oc33 kV33 dc33 pm33 cd33 ct33 : Value}
    {od34 an34 : Option Addr} {sl34 : Array (Option Value)} {oc34 kV34 dc34 pm34 cd34 ct34 : Value}
    {od35 an35 : Option Addr} {sl35 : Array (Option Value)} {oc35 kV35 dc35 pm35 cd35 ct35 : Value}
    {od36 an36 : Option Addr} {sl36 : Array (Option Value)} {oc36 kV36 dc36 pm36 cd36 ct36 : Value}
    {od37 an37 : Option Addr} {sl37 : Array (Option Value)} {oc37 kV37 dc37 pm37 cd37 ct37 : Value}
    {od38 an38 : Option Addr} {sl38 : Array (Option Value)} {oc38 kV38 dc38 pm38 cd38 ct38 : Value}
    {od39 an39 : Option Addr} {sl39 : Array (Option Value)} {oc39 kV39 dc39 pm39 cd39 ct39 : Value}
    {od40 an40 : Option Addr} {sl40 : Array (Option Value)} {oc40 kV40 dc40 pm40 cd40 ct40 : Value}
    {od41 an41 : Option Addr} {sl41 : Array (Option Value)} {oc41 kV41 dc41 pm41 cd41 ct41 : Value}
    {od42 an42 : Option Addr} {sl42 : Array (Option Value)} {oc42 kV42 dc42 pm42 cd42 ct42 : Value}
    {od43 an43 : Option Addr} {sl43 : Array (Option Value)} {oc43 kV43 dc43 pm43 cd43 ct43 : Value}
    {od44 an44 : Option Addr} {sl44 : Array (Option Value)} {oc44 kV44 dc44 pm44 cd44 ct44 : Value}
    {od45 an45 : Option Addr} {sl45 : Array (Option Value)} {oc45 kV45 dc45 pm45 cd45 ct45 : Value}
    {od46 an46 : Option Addr} {sl46 : Array (Option Value)} {oc46 kV46 dc46 pm46 cd46 ct46 : Value}
    {od47 an47 : Option Addr} {sl47 : Array (Option Value)} {oc47 kV47 dc47 pm47 cd47 ct47 : Value}
    {od48 an48 : Option Addr} {sl48 : Array (Option Value)} {oc48 kV48 dc48 pm48 cd48 ct48 : Value}
    {cc0 cc1 cc2 : Addr}
    {ga_MINUS : Addr} {go_MINUS : Option Addr} {gt_MINUS gu_MINUS : Tok} {gm_MINUS : Nat} {gs_MINUS : Array (Option Value)}
    {ga_NONE : Addr} {go_NONE : Option Addr} {gt_NONE gu_NONE : Tok} {gm_NONE : Nat} {gs_NONE : Array (Option Value)}
    {ga_ONE gb_ONE : Addr} {go_ONE gp_ONE : Option Addr} {gt_ONE gu_ONE : Tok} {gn_ONE gm_ONE : Nat} {gs_ONE gr_ONE : Array (Option Value)}
    (a0 : PySem.W.nsIn K mainGlobals "divisor" = some (some (.ref f0)))
    (l0 : K.lookup f0 = some ⟨oc0, od0, .func (PySem.W.fnOf "divisor" "divisor" (defArgs s_divisor) (defBody s_divisor) (defScope s_divisor) .none kV0 dc0 pm0 an0 cd0 ct0), sl0⟩)
    (c0 : PySem.W.codeIn K cd0 "divisor" = true)
    (k0 : PySem.W.keepIn K (.ref f0) = true)
    (a1 : PySem.W.nsIn K mainGlobals "fraction" = some (some (.ref f1)))
    (l1 : K.lookup f1 = some ⟨oc1, od1, .func (PySem.W.fnOf "fraction" "fraction" (defArgs s_fraction) (defBody s_fraction) (defScope s_fraction) .none kV1 dc1 pm1 an1 cd1 ct1), sl1⟩)
    (c1 : PySem.W.codeIn K cd1 "fraction" = true)
    (k1 : PySem.W.keepIn K (.ref f1) = true)
    (a2 : PySem.W.nsIn K mainGlobals "is_whole" = some (some (.ref f2)))
    (l2 : K.lookup f2 = some ⟨oc2, od2, .func (PySem.W.fnOf "is_whole" "is_whole" (defArgs s_is_whole) (defBody s_is_whole) (defScope s_is_whole) .none kV2 dc2 pm2 an2 cd2 ct2), sl2⟩)
    (c2 : PySem.W.codeIn K cd2 "is_whole" = true)
    (k2 : PySem.W.keepIn K (.ref f2) = true)
    (a3 : PySem.W.nsIn K mainGlobals "is_fraction" = some (some (.ref f3)))
    (l3 : K.lookup f3 = some ⟨oc3, od3, .func (PySem.W.fnOf "is_fraction" "is_fraction" (defArgs s_is_fraction) (defBody s_is_fraction) (defScope s_is_fraction) .none kV3 dc3 pm3 an3 cd3 ct3), sl3⟩)
    (c3 : PySem.W.codeIn K cd3 "is_fraction" = true)
    (k3 : PySem.W.keepIn K (.ref f3) = true)
    (a4 : PySem.W.nsIn K mainGlobals "sum_of" = some (some (.ref f4)))
    (l4 : K.lookup f4 = some ⟨oc4, od4, .func (PySem.W.fnOf "sum_of" "sum_of" (defArgs s_sum_of) (defBody s_sum_of) (defScope s_sum_of) .none kV4 dc4 pm4 an4 cd4 ct4), sl4⟩)
    (c4 : PySem.W.codeIn K cd4 "sum_of" = true)
    (k4 : PySem.W.keepIn K (.ref f4) = true)
    (a5 : PySem.W.nsIn K mainGlobals "product_of" = some (some (.ref f5)))
    (l5 : K.lookup f5 = some ⟨oc5, od5, .func (PySem.W.fnOf "product_of" "product_of" (defArgs s_product_of) (defBody s_product_of) (defScope s_product_of) .none kV5 dc5 pm5 an5 cd5 ct5), sl5⟩)
    (c5 : PySem.W.codeIn K cd5 "product_of" = true)
    (k5 : PySem.W.keepIn K (.ref f5) = true)
    (a6 : PySem.W.nsIn K mainGlobals "part_of" = some (some (.ref f6)))
    (l6 : K.lookup f6 = some ⟨oc6, od6, .func (PySem.W.fnOf "part_of" "part_of" (defArgs s_part_of) (defBody s_part_of) (defScope s_part_of) .none kV6 dc6 pm6 an6 cd6 ct6), sl6⟩)
    (c6 : PySem.W.codeIn K cd6 "part_of" = true)
    (k6 : PySem.W.keepIn K (.ref f6) = true)
    (a7 : PySem.W.nsIn K mainGlobals "is_row" = some (some (.ref f7)))
    (l7 : K.lookup f7 = some ⟨oc7, od7, .func (PySem.W.fnOf "is_row" "is_row" (defArgs s_is_row) (defBody s_is_row) (defScope s_is_row) .none kV7 dc7 pm7 an7 cd7 ct7), sl7⟩)
    (c7 : PySem.W.codeIn K cd7 "is_row" = true)
    (k7 : PySem.W.keepIn K (.ref f7) = true)
    (a8 : PySem.W.nsIn K mainGlobals "need_rows" = some (some (.ref f8)))
    (l8 : K.lookup f8 = some ⟨oc8, od8, .func (PySem.W.fnOf "need_rows" "need_rows" (defArgs s_need_rows) (defBody s_need_rows) (defScope s_need_rows) .none kV8 dc8 pm8 an8 cd8 ct8), sl8⟩)
    (c8 : PySem.W.codeIn K cd8 "need_rows" = true)
    (k8 : PySem.W.keepIn K (.ref f8) = true)
    (a9 : PySem.W.nsIn K mainGlobals "trimmed" = some (some (.ref f9)))
    (l9 : K.lookup f9 = some ⟨oc9, od9, .func (PySem.W.fnOf "trimmed" "trimmed" (defArgs s_trimmed) (defBody s_trimmed) (defScope s_trimmed) .none kV9 dc9 pm9 an9 cd9 ct9), sl9⟩)
    (c9 : PySem.W.codeIn K cd9 "trimmed" = true)
    (k9 : PySem.W.keepIn K (.ref f9) = true)
    (a10 : PySem.W.nsIn K mainGlobals "scale" = some (some (.ref f10)))
    (l10 : K.lookup f10 = some ⟨oc10, od10, .func (PySem.W.fnOf "scale" "scale" (defArgs s_scale) (defBody s_scale) (defScope s_scale) .none kV10 dc10 pm10 an10 cd10 ct10), sl10⟩)
    (c10 : PySem.W.codeIn K cd10 "scale" = true)
    (k10 : PySem.W.keepIn K (.ref f10) = true)
    (a11 : PySem.W.nsIn K mainGlobals "add" = some (some (.ref f11)))
    (l11 : K.lookup f11 = some ⟨oc11, od11, .func (PySem.W.fnOf "add" "add" (defArgs s_add) (defBody s_add) (defScope s_add) .none kV11 dc11 pm11 an11 cd11 ct11), sl11⟩)
    (c11 : PySem.W.codeIn K cd11 "add" = true)
    (k11 : PySem.W.keepIn K (.ref f11) = true)
    (a12 : PySem.W.nsIn K mainGlobals "multiply" = some (some (.ref f12)))
    (l12 : K.lookup f12 = some ⟨oc12, od12, .func (PySem.W.fnOf "multiply" "multiply" (defArgs s_multiply) (defBody s_multiply) (defScope s_multiply) .none kV12 dc12 pm12 an12 cd12 ct12), sl12⟩)
    (c12 : PySem.W.codeIn K cd12 "multiply" = true)
    (k12 : PySem.W.keepIn K (.ref f12) = true)
    (a13 : PySem.W.nsIn K mainGlobals "divide" = some (some (.ref f13)))
    (l13 : K.lookup f13 = some ⟨oc13, od13, .func (PySem.W.fnOf "divide" "divide" (defArgs s_divide) (defBody s_divide) (defScope s_divide) .none kV13 dc13 pm13 an13 cd13 ct13), sl13⟩)
    (c13 : PySem.W.codeIn K cd13 "divide" = true)
    (k13 : PySem.W.keepIn K (.ref f13) = true)
    (a14 : PySem.W.nsIn K mainGlobals "slope" = some (some (.ref f14)))
    (l14 : K.lookup f14 = some ⟨oc14, od14, .func (PySem.W.fnOf "slope" "slope" (defArgs s_slope) (defBody s_slope) (defScope s_slope) .none kV14 dc14 pm14 an14 cd14 ct14), sl14⟩)
    (c14 : PySem.W.codeIn K cd14 "slope" = true)
    (k14 : PySem.W.keepIn K (.ref f14) = true)
    (a15 : PySem.W.nsIn K mainGlobals "shared" = some (some (.ref f15)))
    (l15 : K.lookup f15 = some ⟨oc15, od15, .func (PySem.W.fnOf "shared" "shared" (defArgs s_shared) (defBody s_shared) (defScope s_shared) .none kV15 dc15 pm15 an15 cd15 ct15), sl15⟩)
    (c15 : PySem.W.codeIn K cd15 "shared" = true)
    (k15 : PySem.W.keepIn K (.ref f15) = true)
    (a16 : PySem.W.nsIn K mainGlobals "led" = some (some (.ref f16)))
    (l16 : K.lookup f16 = some ⟨oc16, od16, .func (PySem.W.fnOf "led" "led" (defArgs s_led) (defBody s_led) (defScope s_led) .none kV16 dc16 pm16 an16 cd16 ct16), sl16⟩)
    (c16 : PySem.W.codeIn K cd16 "led" = true)
    (k16 : PySem.W.keepIn K (.ref f16) = true)
    (a17 : PySem.W.nsIn K mainGlobals "greatest" = some (some (.ref f17)))
    (l17 : K.lookup f17 = some ⟨oc17, od17, .func (PySem.W.fnOf "greatest" "greatest" (defArgs s_greatest) (defBody s_greatest) (defScope s_greatest) .none kV17 dc17 pm17 an17 cd17 ct17), sl17⟩)
    (c17 : PySem.W.codeIn K cd17 "greatest" = true)
    (k17 : PySem.W.keepIn K (.ref f17) = true)
    (a18 : PySem.W.nsIn K mainGlobals "is_apart" = some (some (.ref f18)))
    (l18 : K.lookup f18 = some ⟨oc18, od18, .func (PySem.W.fnOf "is_apart" "is_apart" (defArgs s_is_apart) (defBody s_is_apart) (defScope s_is_apart) .none kV18 dc18 pm18 an18 cd18 ct18), sl18⟩)
    (c18 : PySem.W.codeIn K cd18 "is_apart" = true)
    (k18 : PySem.W.keepIn K (.ref f18) = true)
    (a19 : PySem.W.nsIn K mainGlobals "is_quotient" = some (some (.ref f19)))
    (l19 : K.lookup f19 = some ⟨oc19, od19, .func (PySem.W.fnOf "is_quotient" "is_quotient" (defArgs s_is_quotient) (defBody s_is_quotient) (defScope s_is_quotient) .none kV19 dc19 pm19 an19 cd19 ct19), sl19⟩)
    (c19 : PySem.W.codeIn K cd19 "is_quotient" = true)
    (k19 : PySem.W.keepIn K (.ref f19) = true)
    (a20 : PySem.W.nsIn K mainGlobals "need_quotients" = some (some (.ref f20)))
    (l20 : K.lookup f20 = some ⟨oc20, od20, .func (PySem.W.fnOf "need_quotients" "need_quotients" (defArgs s_need_quotients) (defBody s_need_quotients) (defScope s_need_quotients) .none kV20 dc20 pm20 an20 cd20 ct20), sl20⟩)
    (c20 : PySem.W.codeIn K cd20 "need_quotients" = true)
    (k20 : PySem.W.keepIn K (.ref f20) = true)
    (a21 : PySem.W.nsIn K mainGlobals "powered" = some (some (.ref f21)))
    (l21 : K.lookup f21 = some ⟨oc21, od21, .func (PySem.W.fnOf "powered" "powered" (defArgs s_powered) (defBody s_powered) (defScope s_powered) .none kV21 dc21 pm21 an21 cd21 ct21), sl21⟩)
    (c21 : PySem.W.codeIn K cd21 "powered" = true)
    (k21 : PySem.W.keepIn K (.ref f21) = true)
    (a22 : PySem.W.nsIn K mainGlobals "by_powers" = some (some (.ref f22)))
    (l22 : K.lookup f22 = some ⟨oc22, od22, .func (PySem.W.fnOf "by_powers" "by_powers" (defArgs s_by_powers) (defBody s_by_powers) (defScope s_by_powers) .none kV22 dc22 pm22 an22 cd22 ct22), sl22⟩)
    (c22 : PySem.W.codeIn K cd22 "by_powers" = true)
    (k22 : PySem.W.keepIn K (.ref f22) = true)
    (a23 : PySem.W.nsIn K mainGlobals "cut" = some (some (.ref f23)))
    (l23 : K.lookup f23 = some ⟨oc23, od23, .func (PySem.W.fnOf "cut" "cut" (defArgs s_cut) (defBody s_cut) (defScope s_cut) .none kV23 dc23 pm23 an23 cd23 ct23), sl23⟩)
    (c23 : PySem.W.codeIn K cd23 "cut" = true)
    (k23 : PySem.W.keepIn K (.ref f23) = true)
    (a24 : PySem.W.nsIn K mainGlobals "parts_of" = some (some (.ref f24)))
    (l24 : K.lookup f24 = some ⟨oc24, od24, .func (PySem.W.fnOf "parts_of" "parts_of" (defArgs s_parts_of) (defBody s_parts_of) (defScope s_parts_of) .none kV24 dc24 pm24 an24 cd24 ct24), sl24⟩)
    (c24 : PySem.W.codeIn K cd24 "parts_of" = true)
    (k24 : PySem.W.keepIn K (.ref f24) = true)
    (a25 : PySem.W.nsIn K mainGlobals "over_part" = some (some (.ref f25)))
    (l25 : K.lookup f25 = some ⟨oc25, od25, .func (PySem.W.fnOf "over_part" "over_part" (defArgs s_over_part) (defBody s_over_part) (defScope s_over_part) .none kV25 dc25 pm25 an25 cd25 ct25), sl25⟩)
    (c25 : PySem.W.codeIn K cd25 "over_part" = true)
    (k25 : PySem.W.keepIn K (.ref f25) = true)
    (a26 : PySem.W.nsIn K mainGlobals "tops_over" = some (some (.ref f26)))
    (l26 : K.lookup f26 = some ⟨oc26, od26, .func (PySem.W.fnOf "tops_over" "tops_over" (defArgs s_tops_over) (defBody s_tops_over) (defScope s_tops_over) .none kV26 dc26 pm26 an26 cd26 ct26), sl26⟩)
    (c26 : PySem.W.codeIn K cd26 "tops_over" = true)
    (k26 : PySem.W.keepIn K (.ref f26) = true)
    (a27 : PySem.W.nsIn K mainGlobals "taken_apart" = some (some (.ref f27)))
    (l27 : K.lookup f27 = some ⟨oc27, od27, .func (PySem.W.fnOf "taken_apart" "taken_apart" (defArgs s_taken_apart) (defBody s_taken_apart) (defScope s_taken_apart) .none kV27 dc27 pm27 an27 cd27 ct27), sl27⟩)
    (c27 : PySem.W.codeIn K cd27 "taken_apart" = true)
    (k27 : PySem.W.keepIn K (.ref f27) = true)
    (a28 : PySem.W.nsIn K mainGlobals "apart" = some (some (.ref f28)))
    (l28 : K.lookup f28 = some ⟨oc28, od28, .func (PySem.W.fnOf "apart" "apart" (defArgs s_apart) (defBody s_apart) (defScope s_apart) .none kV28 dc28 pm28 an28 cd28 ct28), sl28⟩)
    (c28 : PySem.W.codeIn K cd28 "apart" = true)
    (k28 : PySem.W.keepIn K (.ref f28) = true)
    (a29 : PySem.W.nsIn K mainGlobals "_law_cell_at" = some (some (.ref f29)))
    (l29 : K.lookup f29 = some ⟨oc29, od29, .func (PySem.W.fnOf "_law_cell_at" "_law_cell_at" (defArgs s__law_cell_at) (defBody s__law_cell_at) (defScope s__law_cell_at) .none kV29 dc29 pm29 an29 cd29 ct29), sl29⟩)
    (c29 : PySem.W.codeIn K cd29 "_law_cell_at" = true)
    (k29 : PySem.W.keepIn K (.ref f29) = true)
    (a30 : PySem.W.nsIn K mainGlobals "_law_stream" = some (some (.ref f30)))
    (l30 : K.lookup f30 = some ⟨oc30, od30, .func (PySem.W.fnOf "_law_stream" "_law_stream" (defArgs s__law_stream) (defBody s__law_stream) (defScope s__law_stream) .none kV30 dc30 pm30 an30 cd30 ct30), sl30⟩)
    (c30 : PySem.W.codeIn K cd30 "_law_stream" = true)
    (k30 : PySem.W.keepIn K (.ref f30) = true)
    (a31 : PySem.W.nsIn K mainGlobals "_law_divisor" = some (some (.ref f31)))
    (l31 : K.lookup f31 = some ⟨oc31, od31, .func (PySem.W.fnOf "_law_divisor" "_law_divisor" (defArgs s__law_divisor) (defBody s__law_divisor) (defScope s__law_divisor) .none kV31 dc31 pm31 an31 cd31 ct31), sl31⟩)
    (c31 : PySem.W.codeIn K cd31 "_law_divisor" = true)
    (k31 : PySem.W.keepIn K (.ref f31) = true)
    (a32 : PySem.W.nsIn K mainGlobals "_law_fraction" = some (some (.ref f32)))
    (l32 : K.lookup f32 = some ⟨oc32, od32, .func (PySem.W.fnOf "_law_fraction" "_law_fraction" (defArgs s__law_fraction) (defBody s__law_fraction) (defScope s__law_fraction) .none kV32 dc32 pm32 an32 cd32 ct32), sl32⟩)
    (c32 : PySem.W.codeIn K cd32 "_law_fraction" = true)
    (k32 : PySem.W.keepIn K (.ref f32) = true)
    (a33 : PySem.W.nsIn K mainGlobals "_law_sum" = some (some (.ref f33)))
    (l33 : K.lookup f33 = some ⟨oc33, od33, .func (PySem.W.fnOf "_law_sum" "_law_sum" (defArgs s__law_sum) (defBody s__law_sum) (defScope s__law_sum) .none kV33 dc33 pm33 an33 cd33 ct33), sl33⟩)
    (c33 : PySem.W.codeIn K cd33 "_law_sum" = true)
    (k33 : PySem.W.keepIn K (.ref f33) = true)
    (a34 : PySem.W.nsIn K mainGlobals "_law_product" = some (some (.ref f34)))
    (l34 : K.lookup f34 = some ⟨oc34, od34, .func (PySem.W.fnOf "_law_product" "_law_product" (defArgs s__law_product) (defBody s__law_product) (defScope s__law_product) .none kV34 dc34 pm34 an34 cd34 ct34), sl34⟩)
    (c34 : PySem.W.codeIn K cd34 "_law_product" = true)
    (k34 : PySem.W.keepIn K (.ref f34) = true)
    (a35 : PySem.W.nsIn K mainGlobals "_law_trim" = some (some (.ref f35)))
    (l35 : K.lookup f35 = some ⟨oc35, od35, .func (PySem.W.fnOf "_law_trim" "_law_trim" (defArgs s__law_trim) (defBody s__law_trim) (defScope s__law_trim) .none kV35 dc35 pm35 an35 cd35 ct35), sl35⟩)
    (c35 : PySem.W.codeIn K cd35 "_law_trim" = true)
    (k35 : PySem.W.keepIn K (.ref f35) = true)
    (a36 : PySem.W.nsIn K mainGlobals "_law_plus" = some (some (.ref f36)))
    (l36 : K.lookup f36 = some ⟨oc36, od36, .func (PySem.W.fnOf "_law_plus" "_law_plus" (defArgs s__law_plus) (defBody s__law_plus) (defScope s__law_plus) .none kV36 dc36 pm36 an36 cd36 ct36), sl36⟩)
    (c36 : PySem.W.codeIn K cd36 "_law_plus" = true)
    (k36 : PySem.W.keepIn K (.ref f36) = true)
    (a37 : PySem.W.nsIn K mainGlobals "_law_scale" = some (some (.ref f37)))
    (l37 : K.lookup f37 = some ⟨oc37, od37, .func (PySem.W.fnOf "_law_scale" "_law_scale" (defArgs s__law_scale) (defBody s__law_scale) (defScope s__law_scale) .none kV37 dc37 pm37 an37 cd37 ct37), sl37⟩)
    (c37 : PySem.W.codeIn K cd37 "_law_scale" = true)
    (k37 : PySem.W.keepIn K (.ref f37) = true)
    (a38 : PySem.W.nsIn K mainGlobals "_law_times" = some (some (.ref f38)))
    (l38 : K.lookup f38 = some ⟨oc38, od38, .func (PySem.W.fnOf "_law_times" "_law_times" (defArgs s__law_times) (defBody s__law_times) (defScope s__law_times) .none kV38 dc38 pm38 an38 cd38 ct38), sl38⟩)
    (c38 : PySem.W.codeIn K cd38 "_law_times" = true)
    (k38 : PySem.W.keepIn K (.ref f38) = true)
    (a39 : PySem.W.nsIn K mainGlobals "_law_power" = some (some (.ref f39)))
    (l39 : K.lookup f39 = some ⟨oc39, od39, .func (PySem.W.fnOf "_law_power" "_law_power" (defArgs s__law_power) (defBody s__law_power) (defScope s__law_power) .none kV39 dc39 pm39 an39 cd39 ct39), sl39⟩)
    (c39 : PySem.W.codeIn K cd39 "_law_power" = true)
    (k39 : PySem.W.keepIn K (.ref f39) = true)
    (a40 : PySem.W.nsIn K mainGlobals "_law_divide" = some (some (.ref f40)))
    (l40 : K.lookup f40 = some ⟨oc40, od40, .func (PySem.W.fnOf "_law_divide" "_law_divide" (defArgs s__law_divide) (defBody s__law_divide) (defScope s__law_divide) .none kV40 dc40 pm40 an40 cd40 ct40), sl40⟩)
    (c40 : PySem.W.codeIn K cd40 "_law_divide" = true)
    (k40 : PySem.W.keepIn K (.ref f40) = true)
    (a41 : PySem.W.nsIn K mainGlobals "_law_number" = some (some (.ref f41)))
    (l41 : K.lookup f41 = some ⟨oc41, od41, .func (PySem.W.fnOf "_law_number" "_law_number" (defArgs s__law_number) (defBody s__law_number) (defScope s__law_number) .none kV41 dc41 pm41 an41 cd41 ct41), sl41⟩)
    (c41 : PySem.W.codeIn K cd41 "_law_number" = true)
    (k41 : PySem.W.keepIn K (.ref f41) = true)
    (a42 : PySem.W.nsIn K mainGlobals "_law_row_by" = some (some (.ref f42)))
    (l42 : K.lookup f42 = some ⟨oc42, od42, .func (PySem.W.fnOf "_law_row_by" "_law_row_by" (defArgs s__law_row_by) (defBody s__law_row_by) (defScope s__law_row_by) .none kV42 dc42 pm42 an42 cd42 ct42), sl42⟩)
    (c42 : PySem.W.codeIn K cd42 "_law_row_by" = true)
    (k42 : PySem.W.keepIn K (.ref f42) = true)
    (a43 : PySem.W.nsIn K mainGlobals "_law_factors" = some (some (.ref f43)))
    (l43 : K.lookup f43 = some ⟨oc43, od43, .func (PySem.W.fnOf "_law_factors" "_law_factors" (defArgs s__law_factors) (defBody s__law_factors) (defScope s__law_factors) .none kV43 dc43 pm43 an43 cd43 ct43), sl43⟩)
    (c43 : PySem.W.codeIn K cd43 "_law_factors" = true)
    (k43 : PySem.W.keepIn K (.ref f43) = true)
    (a44 : PySem.W.nsIn K mainGlobals "_law_powers" = some (some (.ref f44)))
    (l44 : K.lookup f44 = some ⟨oc44, od44, .func (PySem.W.fnOf "_law_powers" "_law_powers" (defArgs s__law_powers) (defBody s__law_powers) (defScope s__law_powers) .none kV44 dc44 pm44 an44 cd44 ct44), sl44⟩)
    (c44 : PySem.W.codeIn K cd44 "_law_powers" = true)
    (k44 : PySem.W.keepIn K (.ref f44) = true)
    (a45 : PySem.W.nsIn K mainGlobals "_law_many" = some (some (.ref f45)))
    (l45 : K.lookup f45 = some ⟨oc45, od45, .func (PySem.W.fnOf "_law_many" "_law_many" (defArgs s__law_many) (defBody s__law_many) (defScope s__law_many) .none kV45 dc45 pm45 an45 cd45 ct45), sl45⟩)
    (c45 : PySem.W.codeIn K cd45 "_law_many" = true)
    (k45 : PySem.W.keepIn K (.ref f45) = true)
    (a46 : PySem.W.nsIn K mainGlobals "_law_bottom" = some (some (.ref f46)))
    (l46 : K.lookup f46 = some ⟨oc46, od46, .func (PySem.W.fnOf "_law_bottom" "_law_bottom" (defArgs s__law_bottom) (defBody s__law_bottom) (defScope s__law_bottom) .none kV46 dc46 pm46 an46 cd46 ct46), sl46⟩)
    (c46 : PySem.W.codeIn K cd46 "_law_bottom" = true)
    (k46 : PySem.W.keepIn K (.ref f46) = true)
    (a47 : PySem.W.nsIn K mainGlobals "_law_tops" = some (some (.ref f47)))
    (l47 : K.lookup f47 = some ⟨oc47, od47, .func (PySem.W.fnOf "_law_tops" "_law_tops" (defArgs s__law_tops) (defBody s__law_tops) (defScope s__law_tops) .none kV47 dc47 pm47 an47 cd47 ct47), sl47⟩)
    (c47 : PySem.W.codeIn K cd47 "_law_tops" = true)
    (k47 : PySem.W.keepIn K (.ref f47) = true)
    (a48 : PySem.W.nsIn K mainGlobals "law" = some (some (.ref f48)))
    (l48 : K.lookup f48 = some ⟨oc48, od48, .func (PySem.W.fnOf "law" "law" (defArgs s_law) (defBody s_law) (defScope s_law) .none kV48 dc48 pm48 an48 cd48 ct48), sl48⟩)
    (c48 : PySem.W.codeIn K cd48 "law" = true)
    (k48 : PySem.W.keepIn K (.ref f48) = true)
    (z_len : PySem.W.nsIn K mainGlobals "len" = some none)
    (z_range : PySem.W.nsIn K mainGlobals "range" = some none)
    (z_isinstance : PySem.W.nsIn K mainGlobals "isinstance" = some none)
    (z_int : PySem.W.nsIn K mainGlobals "int" = some none)
    (z_bool : PySem.W.nsIn K mainGlobals "bool" = some none)
    (z_tuple : PySem.W.nsIn K mainGlobals "tuple" = some none)
    (z_list : PySem.W.nsIn K mainGlobals "list" = some none)
    (z_str : PySem.W.nsIn K mainGlobals "str" = some none)
    (z_max : PySem.W.nsIn K mainGlobals "max" = some none)
    (z_min : PySem.W.nsIn K mainGlobals "min" = some none)
    (z_abs : PySem.W.nsIn K mainGlobals "abs" = some none)
    (z_sum : PySem.W.nsIn K mainGlobals "sum" = some none)
    (z_sorted : PySem.W.nsIn K mainGlobals "sorted" = some none)
    (z_zip : PySem.W.nsIn K mainGlobals "zip" = some none)
    (xa0 : PySem.W.nsIn K mainGlobals "Nought" = some (some (.ref cc0)))
    (xe0 : PySem.W.excIn K cc0 [.type "ValueError", .type "Exception", .type "BaseException", .type "object"] "ValueError.__new__" = true)
    (xk0 : PySem.W.keepIn K (.ref cc0) = true)
    (xb0 : PySem.W.subIn K (.ref cc0) (.type "BaseException") = some true)
    (xt0 : PySem.W.typeIn K (.ref cc0) = some (.type "type"))
    (xa1 : PySem.W.nsIn K mainGlobals "NoRow" = some (some (.ref cc1)))
    (xe1 : PySem.W.excIn K cc1 [.type "ValueError", .type "Exception", .type "BaseException", .type "object"] "ValueError.__new__" = true)
    (xk1 : PySem.W.keepIn K (.ref cc1) = true)
    (xb1 : PySem.W.subIn K (.ref cc1) (.type "BaseException") = some true)
    (xt1 : PySem.W.typeIn K (.ref cc1) = some (.type "type"))
    (xa2 : PySem.W.nsIn K mainGlobals "NoQuotient" = some (some (.ref cc2)))
    (xe2 : PySem.W.excIn K cc2 [.type "ValueError", .type "Exception", .type "BaseException", .type "object"] "ValueError.__new__" = true)
    (xk2 : PySem.W.keepIn K (.ref cc2) = true)
    (xb2 : PySem.W.subIn K (.ref cc2) (.type "BaseException") = some true)
    (xt2 : PySem.W.typeIn K (.ref cc2) = some (.type "type"))
    (gl_MINUS : PySem.W.nsIn K mainGlobals "MINUS" = some (some (.ref ga_MINUS)))
    (gk_MINUS : K.lookup ga_MINUS = some ⟨.type "tuple", go_MINUS, .seq #[.int (-1) gt_MINUS, .int 1 gu_MINUS] gm_MINUS, gs_MINUS⟩)
    (gl_NONE : PySem.W.nsIn K mainGlobals "NONE" = some (some (.ref ga_NONE)))
    (gk_NONE : K.lookup ga_NONE = some ⟨.type "tuple", go_NONE, .seq #[.int 0 gt_NONE, .int 1 gu_NONE] gm_NONE, gs_NONE⟩)
    (gl_ONE : PySem.W.nsIn K mainGlobals "ONE" = some (some (.ref ga_ONE)))
    (gk_ONE : K.lookup ga_ONE = some ⟨.type "tuple", go_ONE, .seq #[.ref gb_ONE] gn_ONE, gs_ONE⟩)
    (gj_ONE : K.lookup gb_ONE = some ⟨.type "tuple", gp_ONE, .seq #[.int 1 gt_ONE, .int 1 gu_ONE] gm_ONE, gr_ONE⟩)
    (htree : l.prog.given.tree = none) :
    ∃ fd : FuncData, (∀ (s : Shared) (v : Value), BindsTo s fd ⟨[v], []⟩ [("_law_script", v)]) ∧ ∀ base : Heap, K.In base → base.Ns mainGlobals mg → base.NoSeer → FnOk l.prog w K mg base (L2.CX l.prog w) 44 fa fd ["_law_script"] (spS K (R_law)) := by
  have e := hfa.symm.trans (PySem.W.mg_of X G a48)
  cases e
  have Z : Bi mg := ⟨PySem.W.mg_none_of X G z_len, PySem.W.mg_none_of X G z_range, PySem.W.mg_none_of X G z_isinstance, PySem.W.mg_none_of X G z_int, PySem.W.mg_none_of X G z_bool, PySem.W.mg_none_of X G z_tuple, PySem.W.mg_none_of X G z_list, PySem.W.mg_none_of X G z_str, PySem.W.mg_none_of X G z_max, PySem.W.mg_none_of X G z_min, PySem.W.mg_none_of X G z_abs, PySem.W.mg_none_of X G z_sum, PySem.W.mg_none_of X G z_sorted, PySem.W.mg_none_of X G z_zip⟩
  let cl : Nat → Addr := fun g => if g = 0 then cc0 else if g = 1 then cc1 else if g = 2 then cc2 else 0
  have x_Nought : Xc K mg "Nought" (cl 0) := ⟨PySem.W.mg_of X G xa0, xe0, xk0, xb0, xt0⟩
  have x_NoRow : Xc K mg "NoRow" (cl 1) := ⟨PySem.W.mg_of X G xa1, xe1, xk1, xb1, xt1⟩
  have x_NoQuotient : Xc K mg "NoQuotient" (cl 2) := ⟨PySem.W.mg_of X G xa2, xe2, xk2, xb2, xt2⟩
  have g_MINUS : Glo K mg "MINUS" c_MINUS := glo_pair (PySem.W.mg_of X G gl_MINUS) gk_MINUS
  have g_NONE : Glo K mg "NONE" c_NONE := glo_pair (PySem.W.mg_of X G gl_NONE) gk_NONE
  have g_ONE : Glo K mg "ONE" c_ONE := glo_one (PySem.W.mg_of X G gl_ONE) gk_ONE gj_ONE
  have F0 := fun_mk (st := s_divisor) l0 c0 k0
  have b0 := F0.binds (ps := ["one", "other"]) fun _ _ _ _ _ _ us hl => match us, hl with | [_, _], _ => rfl
  have F1 := fun_mk (st := s_fraction) l1 c1 k1
  have b1 := F1.binds (ps := ["top", "bottom"]) fun _ _ _ _ _ _ us hl => match us, hl with | [_, _], _ => rfl
  have F2 := fun_mk (st := s_is_whole) l2 c2 k2
  have b2 := F2.binds (ps := ["thing"]) fun _ _ _ _ _ _ us hl => match us, hl with | [_], _ => rfl
  have F3 := fun_mk (st := s_is_fraction) l3 c3 k3
  have b3 := F3.binds (ps := ["thing"]) fun _ _ _ _ _ _ us hl => match us, hl with | [_], _ => rfl
  have F4 := fun_mk (st := s_sum_of) l4 c4 k4
  have b4 := F4.binds (ps := ["one", "other"]) fun _ _ _ _ _ _ us hl => match us, hl with | [_, _], _ => rfl
  have F5 := fun_mk (st := s_product_of) l5 c5 k5
  have b5 := F5.binds (ps := ["one", "other"]) fun _ _ _ _ _ _ us hl => match us, hl with | [_, _], _ => rfl
  have F6 := fun_mk (st := s_part_of) l6 c6 k6
  have b6 := F6.binds (ps := ["one", "other"]) fun _ _ _ _ _ _ us hl => match us, hl with | [_, _], _ => rfl
  have F7 := fun_mk (st := s_is_row) l7 c7 k7
  have b7 := F7.binds (ps := ["thing"]) fun _ _ _ _ _ _ us hl => match us, hl with | [_], _ => rfl
  have F8 := fun_mk (st := s_need_rows) l8 c8 k8
  have b8 := F8.binds (ps := ["things"]) fun _ _ _ _ _ _ us hl => match us, hl with | [_], _ => rfl
  have F9 := fun_mk (st := s_trimmed) l9 c9 k9
  have b9 := F9.binds (ps := ["parts"]) fun _ _ _ _ _ _ us hl => match us, hl with | [_], _ => rfl
  have F10 := fun_mk (st := s_scale) l10 c10 k10
  have b10 := F10.binds (ps := ["row", "number"]) fun _ _ _ _ _ _ us hl => match us, hl with | [_, _], _ => rfl
  have F11 := fun_mk (st := s_add) l11 c11 k11
  have b11 := F11.binds (ps := ["one", "other"]) fun _ _ _ _ _ _ us hl => match us, hl with | [_, _], _ => rfl
  have F12 := fun_mk (st := s_multiply) l12 c12 k12
  have b12 := F12.binds (ps := ["one", "other"]) fun _ _ _ _ _ _ us hl => match us, hl with | [_, _], _ => rfl
  have F13 := fun_mk (st := s_divide) l13 c13 k13
  have b13 := F13.binds (ps := ["one", "other"]) fun _ _ _ _ _ _ us hl => match us, hl with | [_, _], _ => rfl
  have F14 := fun_mk (st := s_slope) l14 c14 k14
  have b14 := F14.binds (ps := ["row"]) fun _ _ _ _ _ _ us hl => match us, hl with | [_], _ => rfl
  have F15 := fun_mk (st := s_shared) l15 c15 k15
  have b15 := F15.binds (ps := ["one", "other"]) fun _ _ _ _ _ _ us hl => match us, hl with | [_, _], _ => rfl
  have F16 := fun_mk (st := s_led) l16 c16 k16
  have b16 := F16.binds (ps := ["row"]) fun _ _ _ _ _ _ us hl => match us, hl with | [_], _ => rfl
  have F17 := fun_mk (st := s_greatest) l17 c17 k17
  have b17 := F17.binds (ps := ["one", "other"]) fun _ _ _ _ _ _ us hl => match us, hl with | [_, _], _ => rfl
  have F18 := fun_mk (st := s_is_apart) l18 c18 k18
  have b18 := F18.binds (ps := ["one", "other"]) fun _ _ _ _ _ _ us hl => match us, hl with | [_, _], _ => rfl
  have F19 := fun_mk (st := s_is_quotient) l19 c19 k19
  have b19 := F19.binds (ps := ["thing"]) fun _ _ _ _ _ _ us hl => match us, hl with | [_], _ => rfl
  have F20 := fun_mk (st := s_need_quotients) l20 c20 k20
  have b20 := F20.binds (ps := ["things"]) fun _ _ _ _ _ _ us hl => match us, hl with | [_], _ => rfl
  have F21 := fun_mk (st := s_powered) l21 c21 k21
  have b21 := F21.binds (ps := ["row", "power"]) fun _ _ _ _ _ _ us hl => match us, hl with | [_, _], _ => rfl
  have F22 := fun_mk (st := s_by_powers) l22 c22 k22
  have b22 := F22.binds (ps := ["bottom"]) fun _ _ _ _ _ _ us hl => match us, hl with | [_], _ => rfl
  have F23 := fun_mk (st := s_cut) l23 c23 k23
  have b23 := F23.binds (ps := ["part", "row"]) fun _ _ _ _ _ _ us hl => match us, hl with | [_, _], _ => rfl
  have F24 := fun_mk (st := s_parts_of) l24 c24 k24
  have b24 := F24.binds (ps := ["bottom", "told"]) fun _ _ _ _ _ _ us hl => match us, hl with | [_, _], _ => rfl
  have F25 := fun_mk (st := s_over_part) l25 c25 k25
  have b25 := F25.binds (ps := ["top", "part", "rest"]) fun _ _ _ _ _ _ us hl => match us, hl with | [_, _, _], _ => rfl
  have F26 := fun_mk (st := s_tops_over) l26 c26 k26
  have b26 := F26.binds (ps := ["top", "bottom", "part", "power"]) fun _ _ _ _ _ _ us hl => match us, hl with | [_, _, _, _], _ => rfl
  have F27 := fun_mk (st := s_taken_apart) l27 c27 k27
  have b27 := F27.binds (ps := ["one", "told"]) fun _ _ _ _ _ _ us hl => match us, hl with | [_, _], _ => rfl
  have F28 := fun_mk (st := s_apart) l28 c28 k28
  have b28 := F28.binds (ps := ["one", "told"]) fun _ _ _ _ _ _ us hl => match us, hl with | [_, _], _ => rfl
  have F29 := fun_mk (st := s__law_cell_at) l29 c29 k29
  have b29 := F29.binds (ps := ["_law_script", "_law_k"]) fun _ _ _ _ _ _ us hl => match us, hl with | [_, _], _ => rfl
  have F30 := fun_mk (st := s__law_stream) l30 c30 k30
  have b30 := F30.binds (ps := ["_law_cell", "_law_many_here"]) fun _ _ _ _ _ _ us hl => match us, hl with | [_, _], _ => rfl
  have F31 := fun_mk (st := s__law_divisor) l31 c31 k31
  have b31 := F31.binds (ps := ["_law_one", "_law_other"]) fun _ _ _ _ _ _ us hl => match us, hl with | [_, _], _ => rfl
  have F32 := fun_mk (st := s__law_fraction) l32 c32 k32
  have b32 := F32.binds (ps := ["_law_top", "_law_bottom_here"]) fun _ _ _ _ _ _ us hl => match us, hl with | [_, _], _ => rfl
  have F33 := fun_mk (st := s__law_sum) l33 c33 k33
  have b33 := F33.binds (ps := ["_law_one", "_law_other"]) fun _ _ _ _ _ _ us hl => match us, hl with | [_, _], _ => rfl
  have F34 := fun_mk (st := s__law_product) l34 c34 k34
  have b34 := F34.binds (ps := ["_law_one", "_law_other"]) fun _ _ _ _ _ _ us hl => match us, hl with | [_, _], _ => rfl
  have F35 := fun_mk (st := s__law_trim) l35 c35 k35
  have b35 := F35.binds (ps := ["_law_row"]) fun _ _ _ _ _ _ us hl => match us, hl with | [_], _ => rfl
  have F36 := fun_mk (st := s__law_plus) l36 c36 k36
  have b36 := F36.binds (ps := ["_law_one", "_law_other"]) fun _ _ _ _ _ _ us hl => match us, hl with | [_, _], _ => rfl
  have F37 := fun_mk (st := s__law_scale) l37 c37 k37
  have b37 := F37.binds (ps := ["_law_row", "_law_number_here"]) fun _ _ _ _ _ _ us hl => match us, hl with | [_, _], _ => rfl
  have F38 := fun_mk (st := s__law_times) l38 c38 k38
  have b38 := F38.binds (ps := ["_law_one", "_law_other"]) fun _ _ _ _ _ _ us hl => match us, hl with | [_, _], _ => rfl
  have F39 := fun_mk (st := s__law_power) l39 c39 k39
  have b39 := F39.binds (ps := ["_law_row", "_law_power_here"]) fun _ _ _ _ _ _ us hl => match us, hl with | [_, _], _ => rfl
  have F40 := fun_mk (st := s__law_divide) l40 c40 k40
  have b40 := F40.binds (ps := ["_law_one", "_law_other"]) fun _ _ _ _ _ _ us hl => match us, hl with | [_, _], _ => rfl
  have F41 := fun_mk (st := s__law_number) l41 c41 k41
  have b41 := F41.binds (ps := ["_law_x"]) fun _ _ _ _ _ _ us hl => match us, hl with | [_], _ => rfl
  have F42 := fun_mk (st := s__law_row_by) l42 c42 k42
  have b42 := F42.binds (ps := ["_law_x", "_law_most"]) fun _ _ _ _ _ _ us hl => match us, hl with | [_, _], _ => rfl
  have F43 := fun_mk (st := s__law_factors) l43 c43 k43
  have b43 := F43.binds (ps := ["_law_x", "_law_many_here"]) fun _ _ _ _ _ _ us hl => match us, hl with | [_, _], _ => rfl
  have F44 := fun_mk (st := s__law_powers) l44 c44 k44
  have b44 := F44.binds (ps := ["_law_x", "_law_rows"]) fun _ _ _ _ _ _ us hl => match us, hl with | [_, _], _ => rfl
  have F45 := fun_mk (st := s__law_many) l45 c45 k45
  have b45 := F45.binds (ps := ["_law_x"]) fun _ _ _ _ _ _ us hl => match us, hl with | [_], _ => rfl
  have F46 := fun_mk (st := s__law_bottom) l46 c46 k46
  have b46 := F46.binds (ps := ["_law_rows", "_law_powers_here"]) fun _ _ _ _ _ _ us hl => match us, hl with | [_, _], _ => rfl
  have F47 := fun_mk (st := s__law_tops) l47 c47 k47
  have b47 := F47.binds (ps := ["_law_x", "_law_row", "_law_power_here"]) fun _ _ _ _ _ _ us hl => match us, hl with | [_, _, _], _ => rfl
  have F48 := fun_mk (st := s_law) l48 c48 k48
  have b48 := F48.binds (ps := ["_law_script"]) fun _ _ _ _ _ _ us hl => match us, hl with | [_], _ => rfl
  refine ⟨PySem.W.fnOf "law" "law" (defArgs s_law) (defBody s_law) (defScope s_law) .none kV48 dc48 pm48 an48 cd48 ct48, fun s v => .of_eq rfl, fun base _ _ hseer => ?_⟩
  have hpy : True → PyOk l.prog w K mg base := fun _ => ⟨hseer, htree⟩
  have G_divisor : Cl l.prog w K mg base cl 34 "divisor" (R_divisor (True)) := ⟨f0, _, _, fn_divisor F0 Z hpy    , PySem.W.mg_of X G a0, k0, b0⟩
  have G_fraction : Cl l.prog w K mg base cl 35 "fraction" (R_fraction (True)) := ⟨f1, _, _, fn_fraction F1 Z hpy G_divisor  x_Nought , PySem.W.mg_of X G a1, k1, b1⟩
  have G_is_whole : Cl l.prog w K mg base cl 34 "is_whole" (R_is_whole (True)) := ⟨f2, _, _, fn_is_whole F2 Z hpy    , PySem.W.mg_of X G a2, k2, b2⟩
  have G_is_fraction : Cl l.prog w K mg base cl 35 "is_fraction" (R_is_fraction (True)) := ⟨f3, _, _, fn_is_fraction F3 Z hpy G_is_whole G_divisor   , PySem.W.mg_of X G a3, k3, b3⟩
  have G_sum_of : Cl l.prog w K mg base cl 36 "sum_of" (R_sum_of (True)) := ⟨f4, _, _, fn_sum_of F4 Z hpy G_fraction   , PySem.W.mg_of X G a4, k4, b4⟩
  have G_product_of : Cl l.prog w K mg base cl 36 "product_of" (R_product_of (True)) := ⟨f5, _, _, fn_product_of F5 Z hpy G_fraction   , PySem.W.mg_of X G a5, k5, b5⟩
  have G_part_of : Cl l.prog w K mg base cl 36 "part_of" (R_part_of (True)) := ⟨f6, _, _, fn_part_of F6 Z hpy G_fraction   , PySem.W.mg_of X G a6, k6, b6⟩
  have G_is_row : Cl l.prog w K mg base cl 36 "is_row" (R_is_row (True)) := ⟨f7, _, _, fn_is_row F7 Z hpy G_is_fraction   , PySem.W.mg_of X G a7, k7, b7⟩
  have G_need_rows : Cl l.prog w K mg base cl 37 "need_rows" (R_need_rows (True)) := ⟨f8, _, _, fn_need_rows F8 Z hpy G_is_row  x_NoRow , PySem.W.mg_of X G a8, k8, b8⟩
  have G_trimmed : Cl l.prog w K mg base cl 34 "trimmed" (R_trimmed (True)) := ⟨f9, _, _, fn_trimmed F9 Z hpy    , PySem.W.mg_of X G a9, k9, b9⟩
  have G_scale : Cl l.prog w K mg base cl 37 "scale" (R_scale (True)) := ⟨f10, _, _, fn_scale F10 Z hpy G_trimmed G_product_of   , PySem.W.mg_of X G a10, k10, b10⟩
  have G_add : Cl l.prog w K mg base cl 37 "add" (R_add (True)) := ⟨f11, _, _, fn_add F11 Z hpy G_sum_of G_trimmed g_NONE  , PySem.W.mg_of X G a11, k11, b11⟩
  have G_multiply : Cl l.prog w K mg base cl 37 "multiply" (R_multiply (True)) := ⟨f12, _, _, fn_multiply F12 Z hpy G_sum_of G_product_of G_trimmed g_NONE  , PySem.W.mg_of X G a12, k12, b12⟩
  have G_divide : Cl l.prog w K mg base cl 38 "divide" (R_divide (True)) := ⟨f13, _, _, fn_divide F13 Z hpy G_part_of G_product_of G_add G_trimmed G_fraction g_NONE  , PySem.W.mg_of X G a13, k13, b13⟩
  have G_slope : Cl l.prog w K mg base cl 37 "slope" (R_slope (True)) := ⟨f14, _, _, fn_slope F14 Z hpy G_trimmed G_product_of   , PySem.W.mg_of X G a14, k14, b14⟩
  have G_shared : Cl l.prog w K mg base cl 39 "shared" (R_shared (True)) := ⟨f15, _, _, fn_shared F15 Z hpy G_divide G_add G_scale G_multiply G_part_of g_MINUS g_ONE  , PySem.W.mg_of X G a15, k15, b15⟩
  have G_led : Cl l.prog w K mg base cl 38 "led" (R_led (True)) := ⟨f16, _, _, fn_led F16 Z hpy G_scale G_part_of   , PySem.W.mg_of X G a16, k16, b16⟩
  have G_greatest : Cl l.prog w K mg base cl 39 "greatest" (R_greatest (True)) := ⟨f17, _, _, fn_greatest F17 Z hpy G_led G_divide   , PySem.W.mg_of X G a17, k17, b17⟩
  have G_is_apart : Cl l.prog w K mg base cl 40 "is_apart" (R_is_apart (True)) := ⟨f18, _, _, fn_is_apart F18 Z hpy G_greatest g_ONE  , PySem.W.mg_of X G a18, k18, b18⟩
  have G_is_quotient : Cl l.prog w K mg base cl 41 "is_quotient" (R_is_quotient (True)) := ⟨f19, _, _, fn_is_quotient F19 Z hpy G_is_row G_is_apart   , PySem.W.mg_of X G a19, k19, b19⟩
  have G_need_quotients : Cl l.prog w K mg base cl 42 "need_quotients" (R_need_quotients (True)) := ⟨f20, _, _, fn_need_quotients F20 Z hpy G_is_quotient  x_NoQuotient , PySem.W.mg_of X G a20, k20, b20⟩
  have G_powered : Cl l.prog w K mg base cl 38 "powered" (R_powered (True)) := ⟨f21, _, _, fn_powered F21 Z hpy G_multiply g_ONE  , PySem.W.mg_of X G a21, k21, b21⟩
  have G_by_powers : Cl l.prog w K mg base cl 40 "by_powers" (R_by_powers (True)) := ⟨f22, _, _, fn_by_powers F22 Z hpy G_greatest G_slope G_divide G_led   , PySem.W.mg_of X G a22, k22, b22⟩
  have G_cut : Cl l.prog w K mg base cl 40 "cut" (R_cut (True)) := ⟨f23, _, _, fn_cut F23 Z hpy G_greatest G_divide g_ONE  , PySem.W.mg_of X G a23, k23, b23⟩
  have G_parts_of : Cl l.prog w K mg base cl 41 "parts_of" (R_parts_of (True)) := ⟨f24, _, _, fn_parts_of F24 Z hpy G_by_powers G_cut   , PySem.W.mg_of X G a24, k24, b24⟩
  have G_over_part : Cl l.prog w K mg base cl 40 "over_part" (R_over_part (True)) := ⟨f25, _, _, fn_over_part F25 Z hpy G_shared G_divide G_multiply   , PySem.W.mg_of X G a25, k25, b25⟩
  have G_tops_over : Cl l.prog w K mg base cl 41 "tops_over" (R_tops_over (True)) := ⟨f26, _, _, fn_tops_over F26 Z hpy G_powered G_over_part G_divide   , PySem.W.mg_of X G a26, k26, b26⟩
  have G_taken_apart : Cl l.prog w K mg base cl 42 "taken_apart" (R_taken_apart (True)) := ⟨f27, _, _, fn_taken_apart F27 Z hpy G_divide G_parts_of G_tops_over   , PySem.W.mg_of X G a27, k27, b27⟩
  have G_apart : Cl l.prog w K mg base cl 43 "apart" (R_apart (True)) := ⟨f28, _, _, fn_apart F28 Z hpy G_need_quotients G_need_rows G_taken_apart   , PySem.W.mg_of X G a28, k28, b28⟩
  have G__law_cell_at : ClS l.prog w K mg base 34 "_law_cell_at" R_cell := ⟨f29, _, _, fn__law_cell_at (py := True) F29 Z hpy    , PySem.W.mg_of X G a29, k29, b29⟩
  have G__law_stream : Cl l.prog w K mg base cl 34 "_law_stream" (R__law_stream (True)) := ⟨f30, _, _, fn__law_stream F30 Z hpy    , PySem.W.mg_of X G a30, k30, b30⟩
  have G__law_divisor : Cl l.prog w K mg base cl 34 "_law_divisor" (R__law_divisor (True)) := ⟨f31, _, _, fn__law_divisor F31 Z hpy    , PySem.W.mg_of X G a31, k31, b31⟩
  have G__law_fraction : Cl l.prog w K mg base cl 35 "_law_fraction" (R__law_fraction (True)) := ⟨f32, _, _, fn__law_fraction F32 Z hpy G__law_divisor   , PySem.W.mg_of X G a32, k32, b32⟩
  have G__law_sum : Cl l.prog w K mg base cl 36 "_law_sum" (R__law_sum (True)) := ⟨f33, _, _, fn__law_sum F33 Z hpy G__law_fraction   , PySem.W.mg_of X G a33, k33, b33⟩
  have G__law_product : Cl l.prog w K mg base cl 36 "_law_product" (R__law_product (True)) := ⟨f34, _, _, fn__law_product F34 Z hpy G__law_fraction   , PySem.W.mg_of X G a34, k34, b34⟩
  have G__law_trim : Cl l.prog w K mg base cl 34 "_law_trim" (R__law_trim (True)) := ⟨f35, _, _, fn__law_trim F35 Z hpy    , PySem.W.mg_of X G a35, k35, b35⟩
  have G__law_plus : Cl l.prog w K mg base cl 37 "_law_plus" (R__law_plus (True)) := ⟨f36, _, _, fn__law_plus F36 Z hpy G__law_trim G__law_sum   , PySem.W.mg_of X G a36, k36, b36⟩
  have G__law_scale : Cl l.prog w K mg base cl 37 "_law_scale" (R__law_scale (True)) := ⟨f37, _, _, fn__law_scale F37 Z hpy G__law_trim G__law_product   , PySem.W.mg_of X G a37, k37, b37⟩
  have G__law_times : Cl l.prog w K mg base cl 38 "_law_times" (R__law_times (True)) := ⟨f38, _, _, fn__law_times F38 Z hpy G__law_plus G__law_scale   , PySem.W.mg_of X G a38, k38, b38⟩
  have G__law_power : Cl l.prog w K mg base cl 39 "_law_power" (R__law_power (True)) := ⟨f39, _, _, fn__law_power F39 Z hpy G__law_times   , PySem.W.mg_of X G a39, k39, b39⟩
  have G__law_divide : Cl l.prog w K mg base cl 39 "_law_divide" (R__law_divide (True)) := ⟨f40, _, _, fn__law_divide F40 Z hpy G__law_fraction G__law_plus G__law_scale G__law_times   , PySem.W.mg_of X G a40, k40, b40⟩
  have G__law_number : Cl l.prog w K mg base cl 36 "_law_number" (R__law_number (True)) := ⟨f41, _, _, fn__law_number F41 Z hpy G__law_fraction   , PySem.W.mg_of X G a41, k41, b41⟩
  have G__law_row_by : Cl l.prog w K mg base cl 37 "_law_row_by" (R__law_row_by (True)) := ⟨f42, _, _, fn__law_row_by F42 Z hpy G__law_stream G__law_trim G__law_number   , PySem.W.mg_of X G a42, k42, b42⟩
  have G__law_factors : Cl l.prog w K mg base cl 37 "_law_factors" (R__law_factors (True)) := ⟨f43, _, _, fn__law_factors F43 Z hpy G__law_stream G__law_fraction G__law_sum G__law_product G__law_trim   , PySem.W.mg_of X G a43, k43, b43⟩
  have G__law_powers : Cl l.prog w K mg base cl 35 "_law_powers" (R__law_powers (True)) := ⟨f44, _, _, fn__law_powers F44 Z hpy G__law_stream   , PySem.W.mg_of X G a44, k44, b44⟩
  have G__law_many : Cl l.prog w K mg base cl 34 "_law_many" (R__law_many (True)) := ⟨f45, _, _, fn__law_many F45 Z hpy    , PySem.W.mg_of X G a45, k45, b45⟩
  have G__law_bottom : Cl l.prog w K mg base cl 40 "_law_bottom" (R__law_bottom (True)) := ⟨f46, _, _, fn__law_bottom F46 Z hpy G__law_times G__law_power   , PySem.W.mg_of X G a46, k46, b46⟩
  have G__law_tops : Cl l.prog w K mg base cl 38 "_law_tops" (R__law_tops (True)) := ⟨f47, _, _, fn__law_tops F47 Z hpy G__law_stream G__law_row_by   , PySem.W.mg_of X G a47, k47, b47⟩
  exact fn_law (cl := cl) (py := True) F48 Z hpy G__law_stream G__law_cell_at G__law_factors G__law_many G__law_powers G__law_bottom G__law_row_by G__law_times G__law_tops G__law_divide G__law_power G__law_plus G_apart   trivial
end DL
open PySem PySem.W PyProof.Rows
set_option maxHeartbeats 0 in
theorem PySem.Challenge.cw_fractionparts_k11_whole_built_and_apart_holds : PySem.Challenge.rw_fractionparts_k11_whole_built_and_apart.Holds := by
  w_on; o_law; k_head; (case hw => w_witness2)
  k_fill
  refine DL.walk_ofP (l := PySem.Challenge.rw_fractionparts_k11_whole_built_and_apart) (n := 63) (k := 44) (x := "_law_script") (CX := fun w => L2.CX PySem.Challenge.rw_fractionparts_k11_whole_built_and_apart.prog w) (sp := fun w => DL.spS _ (DL.R_law)) rfl (by decide) rfl (by decide +kernel) ⟨rfl, by decide, by decide⟩ (fun w h Y => PySem.W.kIn_of Y) ?F (fun _ H a ns hl _ hS => DL.spS_law H a ns hS) (fun w H s e s' h => DL.cx_law h)
  case F =>
    intro w mg fa h KX G hmg
    refine' DL.all_mk KX G hmg ?a0 ?l0 ?c0 ?k0 ?a1 ?l1 ?c1 ?k1 ?a2 ?l2 ?c2 ?k2 ?a3 ?l3 ?c3 ?k3 ?a4 ?l4 ?c4 ?k4 ?a5 ?l5 ?c5 ?k5 ?a6 ?l6 ?c6 ?k6 ?a7 ?l7 ?c7 ?k7 ?a8 ?l8 ?c8 ?k8 ?a9 ?l9 ?c9 ?k9 ?a10 ?l10 ?c10 ?k10 ?a11 ?l11 ?c11 ?k11 ?a12 ?l12 ?c12 ?k12 ?a13 ?l13 ?c13 ?k13 ?a14 ?l14 ?c14 ?k14 ?a15 ?l15 ?c15 ?k15 ?a16 ?l16 ?c16 ?k16 ?a17 ?l17 ?c17 ?k17 ?a18 ?l18 ?c18 ?k18 ?a19 ?l19 ?c19 ?k19 ?a20 ?l20 ?c20 ?k20 ?a21 ?l21 ?c21 ?k21 ?a22 ?l22 ?c22 ?k22 ?a23 ?l23 ?c23 ?k23 ?a24 ?l24 ?c24 ?k24 ?a25 ?l25 ?c25 ?k25 ?a26 ?l26 ?c26 ?k26 ?a27 ?l27 ?c27 ?k27 ?a28 ?l28 ?c28 ?k28 ?a29 ?l29 ?c29 ?k29 ?a30 ?l30 ?c30 ?k30 ?a31 ?l31 ?c31 ?k31 ?a32 ?l32 ?c32 ?k32 ?a33 ?l33 ?c33 ?k33 ?a34 ?l34 ?c34 ?k34 ?a35 ?l35 ?c35 ?k35 ?a36 ?l36 ?c36 ?k36 ?a37 ?l37 ?c37 ?k37 ?a38 ?l38 ?c38 ?k38 ?a39 ?l39 ?c39 ?k39 ?a40 ?l40 ?c40 ?k40 ?a41 ?l41 ?c41 ?k41 ?a42 ?l42 ?c42 ?k42 ?a43 ?l43 ?c43 ?k43 ?a44 ?l44 ?c44 ?k44 ?a45 ?l45 ?c45 ?k45 ?a46 ?l46 ?c46 ?k46 ?a47 ?l47 ?c47 ?k47 ?a48 ?l48 ?c48 ?k48 ?z_len ?z_range ?z_isinstance ?z_int ?z_bool ?z_tuple ?z_list ?z_str ?z_max ?z_min ?z_abs ?z_sum ?z_sorted ?z_zip ?xa0 ?xe0 ?xk0 ?xb0 ?xt0 ?xa1 ?xe1 ?xk1 ?xb1 ?xt1 ?xa2 ?xe2 ?xk2 ?xb2 ?xt2 ?gl_MINUS ?gk_MINUS ?gl_NONE ?gk_NONE ?gl_ONE ?gk_ONE ?gj_ONE ?htree
    (case a0 => k_is); (case l0 => k_is); (case c0 => k_is); (case k0 => k_is); (case a1 => k_is); (case l1 => k_is); (case c1 => k_is); (case k1 => k_is); (case a2 => k_is); (case l2 => k_is); (case c2 => k_is); (case k2 => k_is); (case a3 => k_is); (case l3 => k_is); (case c3 => k_is); (case k3 => k_is); (case a4 => k_is); (case l4 => k_is); (case c4 => k_is); (case k4 => k_is); (case a5 => k_is); (case l5 => k_is); (case c5 => k_is); (case k5 => k_is); (case a6 => k_is); (case l6 => k_is); (case c6 => k_is); (case k6 => k_is); (case a7 => k_is); (case l7 => k_is); (case c7 => k_is); (case k7 => k_is); (case a8 => k_is); (case l8 => k_is); (case c8 => k_is); (case k8 => k_is); (case a9 => k_is); (case l9 => k_is); (case c9 => k_is); (case k9 => k_is); (case a10 => k_is); (case l10 => k_is); (case c10 => k_is); (case k10 => k_is); (case a11 => k_is); (case l11 => k_is); (case c11 => k_is); (case k11 => k_is); (case a12 => k_is); (case l12 => k_is); (case c12 => k_is); (case k12 => k_is); (case a13 => k_is); (case l13 => k_is); (case c13 => k_is); (case k13 => k_is); (case a14 => k_is); (case l14 => k_is); (case c14 => k_is); (case k14 => k_is); (case a15 => k_is); (case l15 => k_is); (case c15 => k_is); (case k15 => k_is); (case a16 => k_is); (case l16 => k_is); (case c16 => k_is); (case k16 => k_is); (case a17 => k_is); (case l17 => k_is); (case c17 => k_is); (case k17 => k_is); (case a18 => k_is); (case l18 => k_is); (case c18 => k_is); (case k18 => k_is); (case a19 => k_is); (case l19 => k_is); (case c19 => k_is); (case k19 => k_is); (case a20 => k_is); (case l20 => k_is); (case c20 => k_is); (case k20 => k_is); (case a21 => k_is); (case l21 => k_is); (case c21 => k_is); (case k21 => k_is); (case a22 => k_is); (case l22 => k_is); (case c22 => k_is); (case k22 => k_is); (case a23 => k_is); (case l23 => k_is); (case c23 => k_is); (case k23 => k_is); (case a24 => k_is); (case l24 => k_is); (case c24 => k_is); (case k24 => k_is); (case a25 => k_is); (case l25 => k_is); (case c25 => k_is); (case k25 => k_is); (case a26 => k_is); (case l26 => k_is); (case c26 => k_is); (case k26 => k_is); (case a27 => k_is); (case l27 => k_is); (case c27 => k_is); (case k27 => k_is); (case a28 => k_is); (case l28 => k_is); (case c28 => k_is); (case k28 => k_is); (case a29 => k_is); (case l29 => k_is); (case c29 => k_is); (case k29 => k_is); (case a30 => k_is); (case l30 => k_is); (case c30 => k_is); (case k30 => k_is); (case a31 => k_is); (case l31 => k_is); (case c31 => k_is); (case k31 => k_is); (case a32 => k_is); (case l32 => k_is); (case c32 => k_is); (case k32 => k_is); (case a33 => k_is); (case l33 => k_is); (case c33 => k_is); (case k33 => k_is); (case a34 => k_is); (case l34 => k_is); (case c34 => k_is); (case k34 => k_is); (case a35 => k_is); (case l35 => k_is); (case c35 => k_is); (case k35 => k_is); (case a36 => k_is); (case l36 => k_is); (case c36 => k_is); (case k36 => k_is); (case a37 => k_is); (case l37 => k_is); (case c37 => k_is); (case k37 => k_is); (case a38 => k_is); (case l38 => k_is); (case c38 => k_is); (case k38 => k_is); (case a39 => k_is); (case l39 => k_is); (case c39 => k_is); (case k39 => k_is); (case a40 => k_is); (case l40 => k_is); (case c40 => k_is); (case k40 => k_is); (case a41 => k_is); (case l41 => k_is); (case c41 => k_is); (case k41 => k_is); (case a42 => k_is); (case l42 => k_is); (case c42 => k_is); (case k42 => k_is); (case a43 => k_is); (case l43 => k_is); (case c43 => k_is); (case k43 => k_is); (case a44 => k_is); (case l44 => k_is); (case c44 => k_is); (case k44 => k_is); (case a45 => k_is); (case l45 => k_is); (case c45 => k_is); (case k45 => k_is); (case a46 => k_is); (case l46 => k_is); (case c46 => k_is); (case k46 => k_is); (case a47 => k_is); (case l47 => k_is); (case c47 => k_is); (case k47 => k_is); (case a48 => k_is); (case l48 => k_is); (case c48 => k_is); (case k48 => k_is); (case z_len => k_is); (case z_range => k_is); (case z_isinstance => k_is); (case z_int => k_is); (case z_bool => k_is); (case z_tuple => k_is); (case z_list => k_is); (case z_str => k_is); (case z_max => k_is); (case z_min => k_is); (case z_abs => k_is); (case z_sum => k_is); (case z_sorted => k_is); (case z_zip => k_is); (case xa0 => k_is); (case xe0 => k_exc); (case xk0 => k_is); (case xb0 => k_is); (case xt0 => k_is); (case xa1 => k_is); (case xe1 => k_exc); (case xk1 => k_is); (case xb1 => k_is); (case xt1 => k_is); (case xa2 => k_is); (case xe2 => k_exc); (case xk2 => k_is); (case xb2 => k_is); (case xt2 => k_is); (case gl_MINUS => k_is); (case gk_MINUS => k_is); (case gl_NONE => k_is); (case gk_NONE => k_is); (case gl_ONE => k_is); (case gk_ONE => k_is); (case gj_ONE => k_is); (case htree => rfl)

