import PyProof.Rows.All
import Wide.All
import OpenK.AllK
import Wide.FinOn
import HandS.ForMost
import HandS.TupAny
import HandS.TupLe
import HandS.TupMul
import HandS.Conv
import HandS.Deep
import HandS.Wide
import KE.SortData
import HandS.Style
import HandS.More
import HandS.DictTup
import HandS.Star
import HandS.WordsDict
import HandS.TupLen
import KE.KDictWalk
import KE.GoesDict
import HandS.Ends
import PyProof.Rows.ReprShort
import PySem.Challenge.RW_lettersagain_k81_squares_found
set_option Elab.async false
set_option linter.all false
set_option maxRecDepth 100000
set_option maxHeartbeats 4000000
namespace AL
open PySem PySem.Spec PyProof.Rows L2

/-! ### abstract values -/
inductive MO where
  | lst (xs : List PyData)
  | dic (d : PyData)
  | lsts (xss : List (List PyData))
  | src (a l : Addr)
inductive AV where
  | unk
  | dat (d : PyData)
  | own (o : MO)
abbrev AEnv := List AV

def keyD : Key → PyData
  | .inl i => .int i
  | .inr x => .str x

mutual
/-- a value is a datum, by the frozen part S of the heap -/
inductive Rp (S : Hp) : V → PyData → Prop
  | non : Rp S .non .none
  | bl (b : Bool) : Rp S (.bl b) (.bool b)
  | int (i : Int) : Rp S (.int i) (.int i)
  | str (x : Str) : Rp S (.str x) (.str x)
  | lst {a : Addr} {vs : List V} {ds : List PyData} (h : S a = some (.lst vs)) (r : RpAll S vs ds) : Rp S (.ref a) (.list ds)
  | tup {a : Addr} {vs : List V} {ds : List PyData} (h : S a = some (.tup vs)) (r : RpAll S vs ds) : Rp S (.ref a) (.tuple ds)
  | dT {a : Addr} {kvs : List (List Key × V)} {ds : List (PyData × PyData)} (h : Rd S a (.dT kvs)) (r : RpT S kvs ds) : Rp S (.ref a) (.dict ds)
  | dK {a : Addr} {kvs : List (Key × V)} {ds : List (PyData × PyData)} (h : Rd S a (.dK kvs)) (r : RpK S kvs ds) : Rp S (.ref a) (.dict ((.none, .none) :: ds))
inductive RpAll (S : Hp) : List V → List PyData → Prop
  | nil : RpAll S [] []
  | cons {v : V} {d : PyData} {vs : List V} {ds : List PyData} (h : Rp S v d) (t : RpAll S vs ds) : RpAll S (v :: vs) (d :: ds)
inductive RpT (S : Hp) : List (List Key × V) → List (PyData × PyData) → Prop
  | nil : RpT S [] []
  | cons {k : List Key} {v : V} {d : PyData} {kvs : List (List Key × V)} {ds : List (PyData × PyData)} (h : Rp S v d) (t : RpT S kvs ds) : RpT S ((k, v) :: kvs) ((.tuple (k.map keyD), d) :: ds)
inductive RpK (S : Hp) : List (Key × V) → List (PyData × PyData) → Prop
  | nil : RpK S [] []
  | cons {k : Key} {v : V} {d : PyData} {kvs : List (Key × V)} {ds : List (PyData × PyData)} (h : Rp S v d) (t : RpK S kvs ds) : RpK S ((k, v) :: kvs) ((keyD k, d) :: ds)
end
/-- a dict with int and text keys has a mark ahead of its pairs -/
inductive DicH (S : Hp) : HO → PyData → Prop
  | t {kvs : List (List Key × V)} {ds : List (PyData × PyData)} (h : RpT S kvs ds) : DicH S (.dT kvs) (.dict ds)
  | k {kvs : List (Key × V)} {ds : List (PyData × PyData)} (h : RpK S kvs ds) : DicH S (.dK kvs) (.dict ((.none, .none) :: ds))

/-- the source dict of a law: its cells, what is left, the mixed number, the turn -/
def SrcAt (H : Hp) (a l : Addr) : Prop := ∃ (cs : List Int) (lf mx tn : Int),
  H a = some (.dK [(.inr (Str.ofString "cells"), .ref l), (.inr (Str.ofString "left"), .int lf), (.inr (Str.ofString "mixed"), .int mx), (.inr (Str.ofString "turn"), .int tn)]) ∧
  H l = some (.lst (cs.map V.int)) ∧ cs.length ≤ 64 ∧ (∀ c ∈ cs, 0 ≤ c) ∧ 0 ≤ lf ∧ 0 ≤ mx ∧ 0 ≤ tn

def OwnAt (S H : Hp) (a : Addr) : MO → List Addr → Prop
  | .lst xs, fp => fp = [a] ∧ ∃ vs, H a = some (.lst vs) ∧ RpAll S vs xs
  | .dic kvs, fp => fp = [a] ∧ ∃ o, H a = some o ∧ DicH S o kvs
  | .lsts xss, fp => ∃ ls : List Addr, fp = a :: ls ∧ H a = some (.lst (ls.map V.ref)) ∧ Paired (fun l xs => ∃ vs, H l = some (.lst vs) ∧ RpAll S vs xs) ls xss
  | .src b l, fp => a = b ∧ fp = [a, l] ∧ SrcAt H a l
def SlotOk (S H : Hp) (v : Option V) : AV → List Addr → Prop
  | .unk, fp => fp = []
  | .dat d, fp => fp = [] ∧ ∃ u, v = some u ∧ Rp S u d
  | .own o, fp => ∃ a, v = some (.ref a) ∧ OwnAt S H a o fp
/-- a dict -/
def isDic : HO → Prop
  | .dT _ => True
  | .dK _ => True
  | _ => False
/-- the frozen part goes on: what stands, stands; a dict may be locked as it is -/
def Le (S S' : Hp) : Prop := ∀ a o, S a = some o → S' a = some o ∨ (isDic o ∧ ∃ ob, S' a = some (.frz ob o))
theorem Le.refl (S : Hp) : Le S S := fun _ _ h => .inl h
theorem Le.of {S S' : Hp} (e : Same S S') : Le S S' := fun a o h => .inl (e a o h)
theorem Le.trans {S S1 S2 : Hp} (e : Le S S1) (e' : Le S1 S2) : Le S S2 := fun a o h => by
  rcases e a o h with h | ⟨hd, ob, h⟩
  · exact e' a o h
  · rcases e' a _ h with h | ⟨hd', _⟩
    · exact .inr ⟨hd, ob, h⟩
    · exact hd'.elim
theorem Le.lst {S S' : Hp} (e : Le S S') {a : Addr} {xs : List V} (h : S a = some (.lst xs)) : S' a = some (.lst xs) := (e _ _ h).elim (fun h => h) fun h => h.1.elim
theorem Le.tup {S S' : Hp} (e : Le S S') {a : Addr} {xs : List V} (h : S a = some (.tup xs)) : S' a = some (.tup xs) := (e _ _ h).elim (fun h => h) fun h => h.1.elim
def Apart (F S : Hp) : Prop := (∀ a o, F a = some o → S a = none) ∧ ∀ a xs, F a ≠ some (.tup xs)
structure RelW (F S : Hp) (σ : L2.St) (H : Hp) (ρ : AEnv) (fp : Nat → List Addr) : Prop where
  len : σ.length = ρ.length
  slot : ∀ i av, ρ[i]? = some av → SlotOk S H (σ[i]?.getD none) av (fp i)
  nd : ∀ i, (fp i).Nodup
  dis : ∀ i j a, a ∈ fp i → a ∈ fp j → i = j
  out : ∀ i a, a ∈ fp i → S a = none ∧ F a = none ∧ H a ≠ none
  sub : Same S H
  frm : Same F H
  apt : Apart F S
theorem RelW.trunc {F S : Hp} {σ : L2.St} {H : Hp} {ρ : AEnv} {fp : Nat → List Addr} (R : RelW F S σ H ρ fp) : RelW F S σ H ρ (fun i => if i < ρ.length then fp i else []) where
  len := R.len
  slot := fun i av h => by rw [if_pos (List.getElem?_eq_some_iff.mp h).1]; exact R.slot i av h
  nd := fun i => by
    show (if i < ρ.length then fp i else []).Nodup
    split
    · exact R.nd i
    · exact List.nodup_nil
  dis := fun i j a hi hj => by
    by_cases e : i < ρ.length
    · by_cases e2 : j < ρ.length
      · rw [if_pos e] at hi; rw [if_pos e2] at hj; exact R.dis i j a hi hj
      · rw [if_neg e2] at hj; cases hj
    · rw [if_neg e] at hi; cases hi
  out := fun i a hi => by
    by_cases e : i < ρ.length
    · rw [if_pos e] at hi; exact R.out i a hi
    · rw [if_neg e] at hi; cases hi
  sub := R.sub
  frm := R.frm
  apt := R.apt
def Rel (F S : Hp) (σ : L2.St) (H : Hp) (ρ : AEnv) : Prop := ∃ fp, RelW F S σ H ρ fp

section
variable {F S S' H H' : Hp} {σ : L2.St} {ρ : AEnv}
theorem rd_mono {a : Addr} {u : HO} (e : Le S S') (h : Rd S a u) : Rd S' a u := by
  rcases h with h | ⟨o, h⟩
  · exact (e _ _ h).elim .inl fun ⟨_, ob, h⟩ => .inr ⟨ob, h⟩
  · exact (e _ _ h).elim (fun h => .inr ⟨o, h⟩) fun h => h.1.elim
mutual
theorem rp_mono (e : Le S S') : ∀ {v : V} {d : PyData}, Rp S v d → Rp S' v d
  | _, _, .non => .non
  | _, _, .bl b => .bl b
  | _, _, .int i => .int i
  | _, _, .str x => .str x
  | _, _, .lst h r => .lst (e.lst h) (rps_mono e r)
  | _, _, .tup h r => .tup (e.tup h) (rps_mono e r)
  | _, _, .dT h r => .dT (rd_mono e h) (rpt_mono e r)
  | _, _, .dK h r => .dK (rd_mono e h) (rpk_mono e r)
theorem rps_mono (e : Le S S') : ∀ {vs : List V} {ds : List PyData}, RpAll S vs ds → RpAll S' vs ds
  | _, _, .nil => .nil
  | _, _, .cons h r => .cons (rp_mono e h) (rps_mono e r)
theorem rpt_mono (e : Le S S') : ∀ {vs : List (List Key × V)} {ds : List (PyData × PyData)}, RpT S vs ds → RpT S' vs ds
  | _, _, .nil => .nil
  | _, _, .cons h r => .cons (rp_mono e h) (rpt_mono e r)
theorem rpk_mono (e : Le S S') : ∀ {vs : List (Key × V)} {ds : List (PyData × PyData)}, RpK S vs ds → RpK S' vs ds
  | _, _, .nil => .nil
  | _, _, .cons h r => .cons (rp_mono e h) (rpk_mono e r)
end
theorem dich_mono (e : Le S S') {o : HO} {ds : PyData} : DicH S o ds → DicH S' o ds
  | .t h => .t (rpt_mono e h)
  | .k h => .k (rpk_mono e h)
theorem Rp.dic {a : Addr} {o : HO} {ds : PyData} (r : Rd S a o) : DicH S o ds → Rp S (.ref a) ds
  | .t h => .dT r h
  | .k h => .dK r h
theorem paired_mem {α β : Type} {G G' : α → β → Prop} : ∀ {xs : List α} {ys : List β}, Paired G xs ys → (∀ x y, x ∈ xs → G x y → G' x y) → Paired G' xs ys
  | _, _, .nil, _ => .nil
  | _, _, .cons r t, f => .cons (f _ _ List.mem_cons_self r) (paired_mem t fun x y hx => f x y (List.mem_cons_of_mem _ hx))
theorem src_keep {a l : Addr} (h : SrcAt H a l) (ka : H' a = H a) (kl : H' l = H l) : SrcAt H' a l := by
  obtain ⟨cs, lf, mx, tn, h1, h2, r⟩ := h
  exact ⟨cs, lf, mx, tn, ka.trans h1, kl.trans h2, r⟩
theorem own_keep {a : Addr} {fp : List Addr} (e : Le S S') : ∀ {o : MO}, OwnAt S H a o fp → (∀ b ∈ fp, H' b = H b) → OwnAt S' H' a o fp
  | .lst _, ⟨hf, vs, h, r⟩, k => ⟨hf, vs, (k a (by rw [hf]; exact List.mem_cons_self)).trans h, rps_mono e r⟩
  | .dic _, ⟨hf, o, h, r⟩, k => ⟨hf, o, (k a (by rw [hf]; exact List.mem_cons_self)).trans h, dich_mono e r⟩
  | .lsts _, ⟨ls, hf, h, r⟩, k => ⟨ls, hf, (k a (by rw [hf]; exact List.mem_cons_self)).trans h, paired_mem r fun l xs hl ⟨vs, q, d⟩ => ⟨vs, (k l (by rw [hf]; exact List.mem_cons_of_mem _ hl)).trans q, rps_mono e d⟩⟩
  | .src _ l, ⟨hb, hf, h⟩, k => ⟨hb, hf, src_keep h (k a (by rw [hf]; exact List.mem_cons_self)) (k l (by rw [hf]; exact List.mem_cons_of_mem _ List.mem_cons_self))⟩
theorem slot_keep {v : Option V} {fp : List Addr} (e : Le S S') : ∀ {av : AV}, SlotOk S H v av fp → (∀ b ∈ fp, H' b = H b) → SlotOk S' H' v av fp
  | .unk, h, _ => h
  | .dat _, ⟨hf, u, hv, r⟩, _ => ⟨hf, u, hv, rp_mono e r⟩
  | .own _, ⟨a, hv, r⟩, k => ⟨a, hv, own_keep e r k⟩

/-- the heap goes on: what is owned stands -/
theorem RelW.step {fp : Nat → List Addr} (R : RelW F S σ H ρ fp) (e : Le S S') (s1 : Same S' H') (s2 : Same F H') (k : ∀ i b, b ∈ fp i → H' b = H b ∧ S' b = none) (ap : Apart F S') : RelW F S' σ H' ρ fp where
  len := R.len
  slot := fun i av h => slot_keep e (R.slot i av h) fun b hb => (k i b hb).1
  nd := R.nd
  dis := R.dis
  out := fun i a ha => ⟨(k i a ha).2, (R.out i a ha).2.1, by rw [(k i a ha).1]; exact (R.out i a ha).2.2⟩
  sub := s1
  frm := s2
  apt := ap
theorem none_sub (e : Same S H) {p : Addr} (h : H p = none) : S p = none := Same.free e h
theorem same_upd2 {p : Addr} {o : HO} (e : Same S H) : Same (upd S p o) (upd H p o) := fun b u h => by
  by_cases hb : b = p
  · subst hb; rw [upd_same] at h ⊢; exact h
  · rw [upd_ne hb] at h ⊢; exact e _ _ h
theorem le_new {p : Addr} {o : HO} (h : S p = none) : Le S (upd S p o) := fun b u q => by
  rw [upd_ne (ne_of_none q h)]; exact .inl q
theorem same_to_new {p : Addr} {o : HO} (e : Same S H) (h : S p = none) : Same S (upd H p o) := fun b u q => by
  rw [upd_ne (ne_of_none q h)]; exact e _ _ q
/-- a new object, frozen -/
theorem RelW.new {fp : Nat → List Addr} (R : RelW F S σ H ρ fp) {p : Addr} (hp : H p = none) (o : HO) : RelW F (upd S p o) σ (upd H p o) ρ fp := by
  refine R.step (le_new (none_sub R.sub hp)) (same_upd2 R.sub) (same_to_new R.frm (none_sub R.frm hp)) (fun i b hb => ?_) ⟨fun a u h => ?_, R.apt.2⟩
  · have nb : b ≠ p := fun e => (R.out i b hb).2.2 (by rw [e]; exact hp)
    rw [upd_ne nb, upd_ne nb]
    exact ⟨rfl, (R.out i b hb).1⟩
  · have nb : a ≠ p := ne_of_none h (none_sub R.frm hp)
    rw [upd_ne nb]
    exact R.apt.1 a u h
theorem Rel.new (R : Rel F S σ H ρ) {p : Addr} (hp : H p = none) (o : HO) : Rel F (upd S p o) σ (upd H p o) ρ := R.imp fun _ r => r.new hp o
/-- a new object, not (yet) anyone's -/
theorem RelW.laid {fp : Nat → List Addr} (R : RelW F S σ H ρ fp) {p : Addr} (hp : H p = none) (o : HO) : RelW F S σ (upd H p o) ρ fp := by
  refine R.step (Le.refl S) (same_to_new R.sub (none_sub R.sub hp)) (same_to_new R.frm (none_sub R.frm hp)) (fun i b hb => ?_) R.apt
  have nb : b ≠ p := fun e => (R.out i b hb).2.2 (by rw [e]; exact hp)
  rw [upd_ne nb]
  exact ⟨rfl, (R.out i b hb).1⟩
theorem Rel.sub (R : Rel F S σ H ρ) : Same S H := let ⟨_, r⟩ := R; r.sub
/-- slots -/
theorem getD_some {i : Nat} {v : V} (h : σ[i]?.getD none = some v) : σ[i]? = some (some v) := by
  cases q : σ[i]? with
  | none => rw [q] at h; cases h
  | some x => rw [q] at h; exact congrArg some h
theorem Rel.dat (R : Rel F S σ H ρ) {i : Nat} {d : PyData} (h : ρ[i]? = some (.dat d)) : ∃ v, σ[i]? = some (some v) ∧ Rp S v d := by
  obtain ⟨fp, r⟩ := R
  obtain ⟨_, u, hv, q⟩ := r.slot i _ h
  exact ⟨u, getD_some hv, q⟩
theorem RelW.own {fp : Nat → List Addr} (R : RelW F S σ H ρ fp) {i : Nat} {o : MO} (h : ρ[i]? = some (.own o)) : ∃ a, σ[i]? = some (some (.ref a)) ∧ OwnAt S H a o (fp i) := by
  obtain ⟨a, hv, q⟩ := R.slot i _ h
  exact ⟨a, getD_some hv, q⟩
/-- one slot anew: its value, what it is, its own addresses -/
theorem RelW.put {fp : Nat → List Addr} (R : RelW F S σ H ρ fp) {i : Nat} {x : Option V} {av : AV} {q : List Addr} (h : SlotOk S H x av q) (nd : q.Nodup) (hq : ∀ a ∈ q, S a = none ∧ F a = none ∧ H a ≠ none) (hd : ∀ j a, j ≠ i → a ∈ fp j → a ∉ q) :
    RelW F S (σ.set i x) H (ρ.set i av) (fun j => if j = i then q else fp j) where
  len := by simpa using R.len
  slot := fun j av' hj => by
    by_cases e : j = i
    · subst e
      have hl : j < ρ.length := by
        have := (List.getElem?_eq_some_iff.mp hj).1
        simpa using this
      rw [List.getElem?_set_self hl] at hj
      cases hj
      rw [List.getElem?_set_self (by rw [R.len]; exact hl), if_pos rfl]
      exact h
    · rw [List.getElem?_set_ne (Ne.symm e)] at hj
      rw [List.getElem?_set_ne (Ne.symm e), if_neg e]
      exact R.slot j _ hj
  nd := fun j => by
    show (if j = i then q else fp j).Nodup
    split
    · exact nd
    · exact R.nd j
  dis := fun j k a hj hk => by
    by_cases e : j = i
    · by_cases e2 : k = i
      · rw [e, e2]
      · rw [if_pos e] at hj; rw [if_neg e2] at hk
        exact absurd hj (hd k a e2 hk)
    · by_cases e2 : k = i
      · rw [if_neg e] at hj; rw [if_pos e2] at hk
        exact absurd hk (hd j a e hj)
      · rw [if_neg e] at hj; rw [if_neg e2] at hk
        exact R.dis j k a hj hk
  out := fun j a hj => by
    by_cases e : j = i
    · rw [if_pos e] at hj; exact hq a hj
    · rw [if_neg e] at hj; exact R.out j a hj
  sub := R.sub
  frm := R.frm
  apt := R.apt
theorem Rel.putDat (R : Rel F S σ H ρ) (i : Nat) {v : V} {d : PyData} (h : Rp S v d) : Rel F S (σ.set i (some v)) H (ρ.set i (.dat d)) := by
  obtain ⟨fp, r⟩ := R
  exact ⟨_, r.put (q := []) ⟨rfl, v, rfl, h⟩ List.nodup_nil (fun a ha => absurd ha (by simp)) fun j a _ _ => by simp⟩
theorem Rel.putUnk (R : Rel F S σ H ρ) (i : Nat) (x : Option V) : Rel F S (σ.set i x) H (ρ.set i .unk) := by
  obtain ⟨fp, r⟩ := R
  exact ⟨_, r.put (q := []) rfl List.nodup_nil (fun a ha => absurd ha (by simp)) fun j a _ _ => by simp⟩
theorem set_self_getD (σ : L2.St) (i : Nat) : σ.set i (σ[i]?.getD none) = σ := by
  apply List.ext_getElem?
  intro j
  by_cases e : i = j
  · subst e
    by_cases hi : i < σ.length
    · rw [List.getElem?_set_self hi, List.getElem?_eq_getElem hi]
      rfl
    · rw [List.getElem?_eq_none (by simpa using hi), List.getElem?_eq_none (by simpa using hi)]
  · rw [List.getElem?_set_ne e]
theorem Rel.forget (R : Rel F S σ H ρ) (i : Nat) : Rel F S σ H (ρ.set i .unk) := by
  have := R.putUnk i (σ[i]?.getD none)
  rw [set_self_getD] at this
  exact this
/-- a slot's thing is taken to be frozen -/
theorem frz_same {a : Addr} {o : HO} (hS : S a = none) (h : H a = some o) (e : Same S H) : Same (upd S a o) H := fun b u q => by
  by_cases hb : b = a
  · subst hb; rw [upd_same] at q; cases q; exact h
  · rw [upd_ne hb] at q; exact e _ _ q
theorem RelW.freeze {fp : Nat → List Addr} (R : RelW F S σ H ρ fp) {i : Nat} {a : Addr} {o : HO} {d : PyData} (hv : σ[i]? = some (some (.ref a))) (hf : fp i = [a]) (hH : H a = some o) (h : Rp (upd S a o) (.ref a) d) (hi : i < ρ.length) :
    Rel F (upd S a o) σ H (ρ.set i (.dat d)) := by
  have ho := R.out i a (by rw [hf]; exact List.mem_cons_self)
  have R1 := R.put (i := i) (x := some (.ref a)) (av := .unk) (q := []) rfl List.nodup_nil (fun a ha => absurd ha (by simp)) fun j a _ _ => by simp
  have R2 : RelW F (upd S a o) (σ.set i (some (.ref a))) H (ρ.set i .unk) _ := R1.step (le_new ho.1) (frz_same ho.1 hH R.sub) R.frm (fun j b hb => ⟨rfl, by
    by_cases e : j = i
    · rw [if_pos e] at hb; exact absurd hb (by simp)
    · rw [if_neg e] at hb
      have nb : b ≠ a := fun z => e (R.dis j i b hb (by rw [hf, z]; exact List.mem_cons_self))
      rw [upd_ne nb]; exact (R.out j b hb).1⟩) ⟨fun b u hb => (by
    have nb : b ≠ a := fun z => by rw [z, ho.2.1] at hb; cases hb
    rw [upd_ne nb]; exact R.apt.1 b u hb), R.apt.2⟩
  have R3 := R2.put (i := i) (x := some (.ref a)) (av := .dat d) (q := []) ⟨rfl, _, rfl, h⟩ List.nodup_nil (fun a ha => absurd ha (by simp)) fun j a _ _ => by simp
  have e1 : (σ.set i (some (V.ref a))).set i (some (V.ref a)) = σ := by
    rw [List.set_set]
    have : some (V.ref a) = σ[i]?.getD none := by rw [hv]; rfl
    rw [this]
    exact set_self_getD σ i
  rw [e1, List.set_set] at R3
  exact ⟨_, R3⟩
end

section
variable {F S S' H H' : Hp} {σ : L2.St} {ρ : AEnv}
/-- all lists of a list of lists -/
theorem frz_all {fp : Nat → List Addr} : ∀ {ls : List Addr} {xss : List (List PyData)} {S : Hp}, RelW F S σ H ρ fp → (∀ l ∈ ls, S l = none ∧ F l = none ∧ ∀ i, l ∉ fp i) → ls.Nodup → Paired (fun l xs => ∃ vs, H l = some (.lst vs) ∧ RpAll S vs xs) ls xss →
    ∃ S', Le S S' ∧ RelW F S' σ H ρ fp ∧ RpAll S' (ls.map V.ref) (xss.map .list) ∧ ∀ b, b ∉ ls → S b = none → S' b = none
  | _, _, S, R, _, _, .nil => ⟨S, Le.refl S, R, .nil, fun _ _ h => h⟩
  | l :: ls, _, S, R, hn, nd, .cons h t => by
    obtain ⟨vs, hl, r⟩ := h
    obtain ⟨nl, nd⟩ := List.nodup_cons.mp nd
    obtain ⟨h1, h2, h3⟩ := hn l List.mem_cons_self
    have R1 : RelW F (upd S l (.lst vs)) σ H ρ fp := R.step (le_new h1) (frz_same h1 hl R.sub) R.frm (fun j b hb => ⟨rfl, by
      rw [upd_ne (fun z => h3 j (by rw [← z]; exact hb))]; exact (R.out j b hb).1⟩) ⟨fun b u hb => (by
      rw [upd_ne (fun z => by rw [z, h2] at hb; cases hb)]; exact R.apt.1 b u hb), R.apt.2⟩
    have e1 := le_new (o := HO.lst vs) h1
    obtain ⟨S', e2, R2, r2, k⟩ := frz_all R1 (fun m hm => ⟨by rw [upd_ne (fun z => nl (by rw [← z]; exact hm))]; exact (hn m (List.mem_cons_of_mem _ hm)).1, (hn m (List.mem_cons_of_mem _ hm)).2⟩) nd (paired_mem t fun m xs _ ⟨us, q, rr⟩ => ⟨us, q, rps_mono e1 rr⟩)
    refine ⟨S', e1.trans e2, R2, .cons (.lst (e2.lst upd_same) (rps_mono (e1.trans e2) r)) r2, fun b hb hS => k b (fun z => hb (List.mem_cons_of_mem _ z)) ?_⟩
    rw [upd_ne (fun z => hb (by rw [z]; exact List.mem_cons_self))]
    exact hS
theorem freeze_lsts {fp : Nat → List Addr} (R : RelW F S σ H ρ fp) {i : Nat} {a : Addr} {ls : List Addr} {xss : List (List PyData)} (hv : σ[i]? = some (some (.ref a))) (hf : fp i = a :: ls) (hH : H a = some (.lst (ls.map V.ref)))
    (r : Paired (fun l xs => ∃ vs, H l = some (.lst vs) ∧ RpAll S vs xs) ls xss) (hi : i < ρ.length) : ∃ S', Le S S' ∧ Rel F S' σ H (ρ.set i (.dat (.list (xss.map .list)))) ∧ Rp S' (.ref a) (.list (xss.map .list)) := by
  have nd := R.nd i
  rw [hf] at nd
  obtain ⟨na, ndl⟩ := List.nodup_cons.mp nd
  have R1 := R.put (i := i) (x := some (.ref a)) (av := .unk) (q := []) rfl List.nodup_nil (fun a ha => absurd ha (by simp)) fun j a _ _ => by simp
  have hno : ∀ b ∈ a :: ls, ∀ j, b ∉ (fun j => if j = i then [] else fp j) j := fun b hb j hj => by
    by_cases e : j = i
    · simp [e] at hj
    · simp [e] at hj
      exact e (R.dis j i b hj (by rw [hf]; exact hb))
  obtain ⟨S1, e1, R2, r2, k⟩ := frz_all R1 (fun l hl => ⟨(R.out i l (by rw [hf]; exact List.mem_cons_of_mem _ hl)).1, (R.out i l (by rw [hf]; exact List.mem_cons_of_mem _ hl)).2.1, hno l (List.mem_cons_of_mem _ hl)⟩) ndl r
  have ha := R.out i a (by rw [hf]; exact List.mem_cons_self)
  have hS1 : S1 a = none := k a na ha.1
  have e2 := le_new (o := HO.lst (ls.map V.ref)) hS1
  have R3 : RelW F (upd S1 a (.lst (ls.map V.ref))) _ H _ _ := R2.step e2 (frz_same hS1 hH R2.sub) R2.frm (fun j b hb => ⟨rfl, by
      rw [upd_ne (fun z => hno a List.mem_cons_self j (by rw [← z]; exact hb))]; exact (R2.out j b hb).1⟩) ⟨fun b u hb => (by
      rw [upd_ne (fun z => by rw [z, ha.2.1] at hb; cases hb)]; exact R2.apt.1 b u hb), R2.apt.2⟩
  have rp : Rp (upd S1 a (.lst (ls.map V.ref))) (.ref a) (.list (xss.map .list)) := .lst upd_same (rps_mono e2 r2)
  have R4 := R3.put (i := i) (x := some (.ref a)) (av := .dat (.list (xss.map .list))) (q := []) ⟨rfl, _, rfl, rp⟩ List.nodup_nil (fun a ha => absurd ha (by simp)) fun j a _ _ => by simp
  have e3 : (σ.set i (some (V.ref a))).set i (some (V.ref a)) = σ := by
    rw [List.set_set]
    have : some (V.ref a) = σ[i]?.getD none := by rw [hv]; rfl
    rw [this]
    exact set_self_getD σ i
  rw [e3, List.set_set] at R4
  exact ⟨_, e1.trans e2, ⟨_, R4⟩, rp⟩
end
/-! ### judgements over abstract environments -/
abbrev WE := (PyData → AEnv → Prop) → AEnv → Prop
abbrev WT := (Bool → AEnv → Prop) → AEnv → Prop
abbrev WA := (List PyData → AEnv → Prop) → AEnv → Prop
structure Ko where
  nx : AEnv → Prop
  rt : PyData → AEnv → Prop
  bk : AEnv → Prop := fun _ => False
  ct : AEnv → Prop := fun _ => False
abbrev WS := Ko → AEnv → Prop

section
variable (F : Hp)
def tw (w : WE) : TE := fun σ H Q => ∃ S ρ P, Rel F S σ H ρ ∧ w P ρ ∧ ∀ d ρ' S' H' v, P d ρ' → Le S S' → Rel F S' σ H' ρ' → Rp S' v d → Q v H'
def twt (w : WT) : TT := fun σ H Q => ∃ S ρ P, Rel F S σ H ρ ∧ w P ρ ∧ ∀ b ρ' S' H', P b ρ' → Le S S' → Rel F S' σ H' ρ' → Q b H'
def twa (w : WA) : TA := fun σ H Q => ∃ S ρ P, Rel F S σ H ρ ∧ w P ρ ∧ ∀ ds ρ' S' H' vs, P ds ρ' → Le S S' → Rel F S' σ H' ρ' → RpAll S' vs ds → Q vs H'
def tws (w : WS) : TS := fun D σ H => ∃ S ρ k, Rel F S σ H ρ ∧ w k ρ ∧ (∀ ρ' S' σ' H', k.nx ρ' → Le S S' → Rel F S' σ' H' ρ' → D.nx σ' H') ∧
  (∀ d ρ' S' σ' H' v, k.rt d ρ' → Le S S' → Rel F S' σ' H' ρ' → Rp S' v d → D.rt v H') ∧
  (∀ ρ' S' σ' H', k.bk ρ' → Le S S' → Rel F S' σ' H' ρ' → D.bk σ' H') ∧ (∀ ρ' S' σ' H', k.ct ρ' → Le S S' → Rel F S' σ' H' ρ' → D.ct σ' H')
end
structure AE (X : Cx) (e : Expr) (w : WE) : Prop where pe : ∀ F : Hp, PE X e (tw F w)
structure AT (X : Cx) (e : Expr) (w : WT) : Prop where pt : ∀ F : Hp, PT X e (twt F w)
structure AW (X : Cx) (e : Expr) (w : WT) : Prop where pw : ∀ F : Hp, PW X e (twt F w)
structure AA (X : Cx) (es : List Expr) (w : WA) : Prop where pa : ∀ F : Hp, PA X es (twa F w)
structure AS (X : Cx) (st : Stmt) (w : WS) : Prop where ps : ∀ F : Hp, PS X st (tws F w)
structure ASs (X : Cx) (st : List Stmt) (w : WS) : Prop where pss : ∀ F : Hp, PSs X st (tws F w)

section
variable {X : Cx} {F : Hp}
theorem PEimp {e : Expr} {t t' : TE} (h : PE X e t) (k : ∀ σ H Q, t' σ H Q → t σ H Q) : PE X e t' := ⟨fun pins s σ H Q I q => h.run pins s σ H Q I (k σ H Q q)⟩
theorem PTimp {e : Expr} {t t' : TT} (h : PT X e t) (k : ∀ σ H Q, t' σ H Q → t σ H Q) : PT X e t' := ⟨fun pins s σ H Q I q => h.run pins s σ H Q I (k σ H Q q)⟩
theorem PWimp {e : Expr} {t t' : TT} (h : PW X e t) (k : ∀ σ H Q, t' σ H Q → t σ H Q) : PW X e t' := ⟨fun wh pins s σ H Q I q => h.run wh pins s σ H Q I (k σ H Q q)⟩
theorem PAimp {es : List Expr} {t t' : TA} (h : PA X es t) (k : ∀ σ H Q, t' σ H Q → t σ H Q) : PA X es t' := ⟨fun pos pins s σ H Q I q => h.run pos pins s σ H Q I (k σ H Q q)⟩
theorem PSimp {st : Stmt} {t t' : TS} (h : PS X st t) (k : ∀ D σ H, t' D σ H → t D σ H) : PS X st t' := ⟨fun pins s σ H D I q => h.run pins s σ H D I (k D σ H q)⟩
theorem PSsimp {st : List Stmt} {t t' : TS} (h : PSs X st t) (k : ∀ D σ H, t' D σ H → t D σ H) : PSs X st t' := ⟨fun pins s σ H D I q => h.run pins s σ H D I (k D σ H q)⟩

/-! ### constants, names -/
def wC (d : PyData) : WE := fun P ρ => P d ρ
theorem ae_int {i j pos} : AE X (.Constant (.int i) j pos) (wC (.int i)) := ⟨fun F => PEimp pe_int fun σ H Q ⟨S, ρ, P, R, h, q⟩ => q _ _ _ _ _ h (Le.refl S) R (.int i)⟩
theorem ae_bl {b j pos} : AE X (.Constant (.bool b) j pos) (wC (.bool b)) := ⟨fun F => PEimp pe_bl fun σ H Q ⟨S, ρ, P, R, h, q⟩ => q _ _ _ _ _ h (Le.refl S) R (.bl b)⟩
theorem ae_non {j pos} : AE X (.Constant .none j pos) (wC .none) := ⟨fun F => PEimp pe_non fun σ H Q ⟨S, ρ, P, R, h, q⟩ => q _ _ _ _ _ h (Le.refl S) R .non⟩
theorem ae_str {x j pos} : AE X (.Constant (.str x) j pos) (wC (.str x)) := ⟨fun F => PEimp pe_str fun σ H Q ⟨S, ρ, P, R, h, q⟩ => q _ _ _ _ _ h (Le.refl S) R (.str x)⟩
def ownD : MO → Option PyData
  | .lst xs => some (.list xs)
  | .dic d => some d
  | .lsts xss => some (.list (xss.map .list))
  | .src _ _ => none
/-- a name: what it holds; an owned list is frozen thereby -/
def wVar (i : Nat) : WE := fun P ρ => match ρ[i]? with
  | some (.dat d) => P d ρ
  | some (.own o) => (match ownD o with | some d => P d (ρ.set i (.dat d)) | none => False)
  | _ => False
theorem lt_of_some {ρ : AEnv} {i : Nat} {x : AV} (h : ρ[i]? = some x) : i < ρ.length := (List.getElem?_eq_some_iff.mp h).1
theorem ae_var {i : Nat} {x : Str} {pos : Pos} (hN : X.N[i]? = some x) (hv : Vis X.env.scope x) (hd : (x == ("__debug__" : Str)) = false := by decide) (hcd : (x == ("__classdict__" : Str)) = false := by decide) : AE X (.Name x pos) (wVar i) := by
  refine ⟨fun F => PEimp (pe_var hN hv hd hcd) fun σ H Q ⟨S, ρ, P, R, h, q⟩ => ?_⟩
  unfold wVar at h
  split at h
  · rename_i d e
    obtain ⟨v, hv, r⟩ := R.dat e
    exact ⟨v, hv, q _ _ _ _ _ h (Le.refl S) R r⟩
  · rename_i o e
    obtain ⟨fp, R⟩ := R
    obtain ⟨a, hv, ow⟩ := R.own e
    refine ⟨_, hv, ?_⟩
    split at h
    · rename_i d ho
      cases o with
      | lst xs =>
        cases ho
        obtain ⟨hf, vs, hH, r⟩ := ow
        have nS := (R.out i a (by rw [hf]; exact List.mem_cons_self)).1
        have rp : Rp (upd S a (.lst vs)) (.ref a) (.list xs) := .lst upd_same (rps_mono (le_new nS) r)
        exact q _ _ _ _ _ h (le_new nS) (R.freeze hv hf hH rp (lt_of_some e)) rp
      | dic kvs =>
        cases ho
        obtain ⟨hf, u, hH, r⟩ := ow
        have nS := (R.out i a (by rw [hf]; exact List.mem_cons_self)).1
        have rp : Rp (upd S a u) (.ref a) d := .dic (.inl upd_same) (dich_mono (le_new nS) r)
        exact q _ _ _ _ _ h (le_new nS) (R.freeze hv hf hH rp (lt_of_some e)) rp
      | lsts xss =>
        cases ho
        obtain ⟨ls, hf, hH, r⟩ := ow
        obtain ⟨S', e1, R', r'⟩ := freeze_lsts R hv hf hH r (lt_of_some e)
        exact q _ _ _ _ _ h e1 R' r'
      | src _ _ => cases ho
    · exact h.elim
  · exact h.elim

/-! ### two-place operators -/
/-- an operator on data: f asks, and goes on with the answer -/
abbrev W2 := PyData → PyData → (PyData → Prop) → Prop
def Op2 (r : R2) (f : W2) : Prop := ∀ (F S : Hp) (σ : L2.St) (H : Hp) (ρ : AEnv) (x y : V) (d e : PyData) (P : PyData → Prop) (Q : VK), Rel F S σ H ρ → Rp S x d → Rp S y e → f d e P →
  (∀ z S' H' v, P z → Le S S' → Rel F S' σ H' ρ → Rp S' v z → Q v H') → r x y H Q
def wBin (f : W2) (wa wb : WE) : WE := fun P ρ => wa (fun d ρ1 => wb (fun e ρ2 => f d e (fun z => P z ρ2)) ρ1) ρ
theorem bin_go {r : R2} {f : W2} (hf : Op2 r f) {wa wb : WE} : ∀ σ H Q, tw F (wBin f wa wb) σ H Q → tOp r (tw F wa) (tw F wb) σ H Q := fun σ H Q ⟨S, ρ, P, R, h, q⟩ =>
  ⟨S, ρ, _, R, h, fun d ρ1 S1 H1 x h1 e1 R1 r1 => ⟨S1, ρ1, _, R1, h1, fun e ρ2 S2 H2 y h2 e2 R2 r2 =>
    hf F S2 σ H2 ρ2 x y d e _ _ R2 (rp_mono e2 r1) r2 h2 fun z S' H' v hz e3 R3 r3 => q _ _ _ _ _ hz ((e1.trans e2).trans e3) R3 r3⟩⟩
theorem ae_bin {a b : Expr} {op : Operator} {pos : Pos} {r : R2} {f : W2} {wa wb : WE} (hop : OpR X (binaryOp op) r) (hf : Op2 r f) (ha : AE X a wa) (hb : AE X b wb) : AE X (.BinOp a op b pos) (wBin f wa wb) :=
  ⟨fun F => PEimp (pe_op hop (ha.pe F) (hb.pe F)) (bin_go hf)⟩
theorem ae_cmp {a b : Expr} {op : CmpOp} {pos : Pos} {r : R2} {f : W2} {wa wb : WE} (hop : OpR X (compareOp op) r) (hf : Op2 r f) (ha : AE X a wa) (hb : AE X b wb) (hm : behindInMarks op b = false) : AE X (.Compare a [op] [b] pos) (wBin f wa wb) :=
  ⟨fun F => PEimp (pe_cmpR hop (ha.pe F) (hb.pe F) hm) (bin_go hf)⟩
theorem op_or {f : Value → Value → Sem Value} {r r' : R2} (h : OpR X f r) (h' : OpR X f r') : OpR X f (fun x y H Q => r x y H Q ∨ r' x y H Q) := fun pins s σ H x y v u Q I rx ry q => q.elim (h pins s σ H x y v u Q I rx ry) (h' pins s σ H x y v u Q I rx ry)
end
end AL

set_option Elab.async false
set_option linter.all false
set_option maxRecDepth 100000
set_option maxHeartbeats 4000000
namespace AL
open PySem PySem.Spec PyProof.Rows L2
section
variable {F S S' H H' : Hp} {σ : L2.St} {ρ : AEnv}
/-! ### data without dicts -/
mutual
theorem rp_dp (K : PySem.W.Frag) : ∀ {v : V} {d : PyData}, Rp S v d → d.canLay0 = true → Dp K S v d
  | _, _, .non, _ => .non
  | _, _, .bl b, _ => .bl b
  | _, _, .int i, _ => .int i
  | _, _, .str x, _ => .str x
  | _, _, .lst h r, c => .lst (.inl (.inl h)) (rps_dp K r (by simpa only [PyData.canLay0] using c))
  | _, _, .tup h r, c => .tup (.inl (.inl h)) (rps_dp K r (by simpa only [PyData.canLay0] using c))
  | _, _, .dT _ _, c => by simp [PyData.canLay0] at c
  | _, _, .dK _ _, c => by simp [PyData.canLay0] at c
theorem rps_dp (K : PySem.W.Frag) : ∀ {vs : List V} {ds : List PyData}, RpAll S vs ds → PyData.canLayAll0 ds = true → DpAll K S vs ds
  | _, _, .nil, _ => .nil
  | _, d :: ds, .cons h r, c => by
    have c' : PyData.canLay0 d = true ∧ PyData.canLayAll0 ds = true := by simpa only [PyData.canLayAll0, Bool.and_eq_true] using c
    exact .cons (rp_dp K h c'.1) (rps_dp K r c'.2)
end
theorem rps_length : ∀ {vs : List V} {ds : List PyData}, RpAll S vs ds → vs.length = ds.length
  | _, _, .nil => rfl
  | _, _, .cons _ r => congrArg (· + 1) (rps_length r)
theorem rps_append : ∀ {vs : List V} {ds : List PyData} {us : List V} {es : List PyData}, RpAll S vs ds → RpAll S us es → RpAll S (vs ++ us) (ds ++ es)
  | _, _, _, _, .nil, r => r
  | _, _, _, _, .cons h t, r => .cons h (rps_append t r)
theorem rps_take : ∀ (n : Nat) {vs : List V} {ds : List PyData}, RpAll S vs ds → RpAll S (vs.take n) (ds.take n)
  | 0, _, _, _ => by simpa using RpAll.nil
  | _ + 1, _, _, .nil => .nil
  | n + 1, _, _, .cons h t => .cons h (rps_take n t)
theorem rps_drop : ∀ (n : Nat) {vs : List V} {ds : List PyData}, RpAll S vs ds → RpAll S (vs.drop n) (ds.drop n)
  | 0, _, _, r => r
  | _ + 1, _, _, .nil => .nil
  | n + 1, _, _, .cons _ t => rps_drop n t
theorem rps_get : ∀ {vs : List V} {ds : List PyData} {i : Nat} {v : V}, RpAll S vs ds → vs[i]? = some v → ∃ d, ds[i]? = some d ∧ Rp S v d
  | _, _, _, _, .nil, h => by simp at h
  | _, _, 0, _, .cons h _, e => by simp at e; subst e; exact ⟨_, rfl, h⟩
  | _, _, i + 1, _, .cons _ t, e => by
    obtain ⟨d, h1, h2⟩ := rps_get (i := i) t (by simpa using e)
    exact ⟨d, by simpa using h1, h2⟩
theorem rps_getd : ∀ {vs : List V} {ds : List PyData} {i : Nat} {d : PyData}, RpAll S vs ds → ds[i]? = some d → ∃ v, vs[i]? = some v ∧ Rp S v d
  | _, _, _, _, .nil, h => by simp at h
  | _, _, 0, _, .cons h _, e => by simp at e; subst e; exact ⟨_, rfl, h⟩
  | _, _, i + 1, _, .cons _ t, e => by
    obtain ⟨d, h1, h2⟩ := rps_getd (i := i) t (by simpa using e)
    exact ⟨d, by simpa using h1, h2⟩
theorem rps_rev : ∀ {vs : List V} {ds : List PyData}, RpAll S vs ds → RpAll S vs.reverse ds.reverse
  | _, _, .nil => .nil
  | _, _, .cons h t => by rw [List.reverse_cons, List.reverse_cons]; exact rps_append (rps_rev t) (.cons h .nil)
theorem rps_ints : ∀ {vs : List V} {ns : List Int}, RpAll S vs (ns.map PyData.int) → vs = ns.map V.int
  | _, [], .nil => rfl
  | _, n :: ns, .cons h t => by
    cases h
    rw [List.map_cons, rps_ints t]
theorem rps_of_ints : ∀ (ns : List Int), RpAll S (ns.map V.int) (ns.map PyData.int)
  | [] => .nil
  | n :: ns => .cons (.int n) (rps_of_ints ns)
theorem rps_bools : ∀ {vs : List V} {ns : List Bool}, RpAll S vs (ns.map PyData.bool) → vs = ns.map V.bl
  | _, [], .nil => rfl
  | _, n :: ns, .cons h t => by
    cases h
    rw [List.map_cons, rps_bools t]
theorem Rel.frm (R : Rel F S σ H ρ) : Same F H := let ⟨_, r⟩ := R; r.frm
theorem Rel.apt (R : Rel F S σ H ρ) : Apart F S := let ⟨_, r⟩ := R; r.apt
end

/-! ### the data's operators -/
def intD (f : Int → Int → Int) : W2 := fun d e P => match d, e with
  | .int i, .int j => P (.int (f i j))
  | _, _ => False
def cmpD (f : Int → Int → Bool) : W2 := fun d e P => match d, e with
  | .int i, .int j => P (.bool (f i j))
  | _, _ => False
theorem op2_int {f : Int → Int → Int} : Op2 (rI0 fun i j => .int (f i j)) (intD f) := by
  intro F S σ H ρ x y d e P Q R rx ry h q
  unfold intD at h
  split at h
  · cases rx; cases ry
    exact ⟨_, _, rfl, rfl, q _ _ _ _ h (Le.refl S) R (.int _)⟩
  · exact h.elim
theorem op2_cmp {f : Int → Int → Bool} : Op2 (rI0 fun i j => .bl (f i j)) (cmpD f) := by
  intro F S σ H ρ x y d e P Q R rx ry h q
  unfold cmpD at h
  split at h
  · cases rx; cases ry
    exact ⟨_, _, rfl, rfl, q _ _ _ _ h (Le.refl S) R (.bl _)⟩
  · exact h.elim
/-- x + y: ints, tuples, lists -/
def addD : W2 := fun d e P => match d, e with
  | .int i, .int j => P (.int (i + j))
  | .tuple xs, .tuple ys => xs.length + ys.length ≤ sizeLine ∧ P (.tuple (xs ++ ys))
  | .list xs, .list ys => xs.length + ys.length ≤ sizeLine ∧ P (.list (xs ++ ys))
  | _, _ => False
def rAddAll (K : PySem.W.Frag) : R2 := fun x y H Q => rI0 (fun i j => .int (i + j)) x y H Q ∨ rCatA K x y H Q ∨ rCat x y H Q
theorem op_addAll {X : Cx} : OpR X (binaryOp .Add) (rAddAll X.K) := op_or op_add (op_or op_catA op_cat)
theorem op2_add {K : PySem.W.Frag} : Op2 (rAddAll K) addD := by
  intro F S σ H ρ x y d e P Q R rx ry h q
  unfold addD at h
  split at h
  · cases rx; cases ry
    exact .inl ⟨_, _, rfl, rfl, q _ _ _ _ h (Le.refl S) R (.int _)⟩
  · rename_i xs ys
    cases rx with
    | @tup a vs _ ha ra =>
      cases ry with
      | @tup b us _ hb rb =>
        refine .inr (.inl ⟨a, b, vs, us, rfl, rfl, .inl (.inl (R.sub _ _ ha)), .inl (.inl (R.sub _ _ hb)), by rw [rps_length ra, rps_length rb]; exact h.1, fun e => ?_, fun _ e => ?_, fun _ _ p hp => ?_⟩)
        · subst e
          cases ra
          exact q _ _ _ _ h.2 (Le.refl S) R (by rw [List.nil_append]; exact .tup hb rb)
        · subst e
          cases rb
          exact q _ _ _ _ h.2 (Le.refl S) R (by rw [List.append_nil]; exact .tup ha ra)
        · exact q _ _ _ _ h.2 (le_new (none_sub R.sub hp)) (R.new hp _) (.tup upd_same (rps_mono (le_new (none_sub R.sub hp)) (rps_append ra rb)))
  · rename_i xs ys
    cases rx with
    | @lst a vs _ ha ra =>
      cases ry with
      | @lst b us _ hb rb =>
        exact .inr (.inr ⟨a, b, vs, us, rfl, rfl, R.sub _ _ ha, R.sub _ _ hb, by rw [rps_length ra, rps_length rb]; exact h.1, fun p hp =>
          q _ _ _ _ h.2 (le_new (none_sub R.sub hp)) (R.new hp _) (.lst upd_same (rps_mono (le_new (none_sub R.sub hp)) (rps_append ra rb)))⟩)
  · exact h.elim
section
variable {X : Cx} {F : Hp} {a b : Expr} {pos : Pos} {wa wb : WE}
theorem ae_add (ha : AE X a wa) (hb : AE X b wb) : AE X (.BinOp a .Add b pos) (wBin addD wa wb) := ae_bin op_addAll op2_add ha hb
theorem ae_sub (ha : AE X a wa) (hb : AE X b wb) : AE X (.BinOp a .Sub b pos) (wBin (intD fun i j => i - j) wa wb) := ae_bin op_sub op2_int ha hb
/-- //, % by a positive divisor -/
def fdivD : W2 := fun d e P => match d, e with
  | .int i, .int j => (0 < j ∧ j < 1073741824) ∧ P (.int (i / j))
  | _, _ => False
def modD : W2 := fun d e P => match d, e with
  | .int i, .int j => 0 < j ∧ P (.int (i % j))
  | _, _ => False
theorem op2_fdiv : Op2 (rI CDiv fun i j => .int (i / j)) fdivD := by
  intro F S σ H ρ x y d e P Q R rx ry h q
  unfold fdivD at h
  split at h
  · cases rx; cases ry
    exact ⟨_, _, rfl, rfl, h.1, q _ _ _ _ h.2 (Le.refl S) R (.int _)⟩
  · exact h.elim
theorem op2_mod : Op2 (rI (fun _ j => 0 < j) fun i j => .int (i % j)) modD := by
  intro F S σ H ρ x y d e P Q R rx ry h q
  unfold modD at h
  split at h
  · cases rx; cases ry
    exact ⟨_, _, rfl, rfl, h.1, q _ _ _ _ h.2 (Le.refl S) R (.int _)⟩
  · exact h.elim
theorem ae_fdiv (ha : AE X a wa) (hb : AE X b wb) : AE X (.BinOp a .FloorDiv b pos) (wBin fdivD wa wb) := ae_bin op_fdiv op2_fdiv ha hb
theorem ae_mod (ha : AE X a wa) (hb : AE X b wb) : AE X (.BinOp a .Mod b pos) (wBin modD wa wb) := ae_bin op_mod op2_mod ha hb
/-- x << y, x >> y, x ** y of small ints -/
def powD (f : Int → Int → Int) : W2 := fun d e P => match d, e with
  | .int i, .int j => (0 ≤ j ∧ j ≤ 1000000 ∧ i.natAbs < 2 ^ 64) ∧ P (.int (f i j))
  | _, _ => False
def shrD : W2 := fun d e P => match d, e with
  | .int i, .int j => 0 ≤ j ∧ P (.int (i / 2 ^ j.toNat))
  | _, _ => False
theorem op2_pow {f : Int → Int → Int} : Op2 (rI CPow fun i j => .int (f i j)) (powD f) := by
  intro F S σ H ρ x y d e P Q R rx ry h q
  unfold powD at h
  split at h
  · cases rx; cases ry
    exact ⟨_, _, rfl, rfl, h.1, q _ _ _ _ h.2 (Le.refl S) R (.int _)⟩
  · exact h.elim
theorem op2_shr : Op2 (rI (fun _ j => 0 ≤ j) fun i j => .int (i / 2 ^ j.toNat)) shrD := by
  intro F S σ H ρ x y d e P Q R rx ry h q
  unfold shrD at h
  split at h
  · cases rx; cases ry
    exact ⟨_, _, rfl, rfl, h.1, q _ _ _ _ h.2 (Le.refl S) R (.int _)⟩
  · exact h.elim
theorem ae_shl (ha : AE X a wa) (hb : AE X b wb) : AE X (.BinOp a .LShift b pos) (wBin (powD fun i j => i * 2 ^ j.toNat) wa wb) := ae_bin op_shl op2_pow ha hb
theorem ae_pow (ha : AE X a wa) (hb : AE X b wb) : AE X (.BinOp a .Pow b pos) (wBin (powD fun i j => i ^ j.toNat) wa wb) := ae_bin op_pow op2_pow ha hb
theorem ae_shr (ha : AE X a wa) (hb : AE X b wb) : AE X (.BinOp a .RShift b pos) (wBin shrD wa wb) := ae_bin op_shr op2_shr ha hb

/-! ### comparisons -/
/-- <: ints; tuples of ints -/
def ltD : W2 := fun d e P => match d, e with
  | .int i, .int j => P (.bool (decide (i < j)))
  | .tuple xs, .tuple ys => ∃ ns ms : List Int, xs = ns.map .int ∧ ys = ms.map .int ∧ P (.bool (HT.lexLt ns ms))
  | _, _ => False
theorem op_ltAll {X : Cx} (hu : X.A.units < cLine) : OpR X (compareOp .Lt) (fun x y H Q => rI0 (fun i j => .bl (decide (i < j))) x y H Q ∨ rLtT X.K x y H Q) := op_or op_lt (op_ltT hu)
theorem op2_lt {K : PySem.W.Frag} : Op2 (fun x y H Q => rI0 (fun i j => .bl (decide (i < j))) x y H Q ∨ rLtT K x y H Q) ltD := by
  intro F S σ H ρ x y d e P Q R rx ry h q
  unfold ltD at h
  split at h
  · cases rx; cases ry
    exact .inl ⟨_, _, rfl, rfl, q _ _ _ _ h (Le.refl S) R (.bl _)⟩
  · obtain ⟨ns, ms, rfl, rfl, h⟩ := h
    cases rx with
    | @tup a vs _ ha ra =>
      cases ry with
      | @tup b us _ hb rb =>
        obtain rfl := rps_ints ra
        obtain rfl := rps_ints rb
        exact .inr ⟨a, b, ns, ms, rfl, rfl, .inl (.inl (R.sub _ _ ha)), .inl (.inl (R.sub _ _ hb)), q _ _ _ _ h (Le.refl S) R (.bl _)⟩
  · exact h.elim
theorem lexAt_le : ∀ (ns ms : List Int) (k : Nat) (ns0 ms0 : List Int), ns0.length = k → ms0.length = k →
    Ob.lexAt (fun j => decide ((ns0 ++ ns).getD j 0 = (ms0 ++ ms).getD j 0)) (fun j => decide ((ns0 ++ ns).getD j 0 ≤ (ms0 ++ ms).getD j 0)) (decide ((ns0 ++ ns).length ≤ (ms0 ++ ms).length)) k (min ns.length ms.length) = !HT.lexLt ms ns
  | [], ms, k, ns0, ms0, h1, h2 => by
    cases ms with
    | nil => simp [Ob.lexAt, HT.lexLt, h1, h2]
    | cons m ms => simp [Ob.lexAt, HT.lexLt, h1, h2]
  | n :: ns, [], k, ns0, ms0, h1, h2 => by simp [Ob.lexAt, HT.lexLt, h1, h2]
  | n :: ns, m :: ms, k, ns0, ms0, h1, h2 => by
    have g1 : (ns0 ++ n :: ns).getD k 0 = n := by simp [List.getD, ← h1]
    have g2 : (ms0 ++ m :: ms).getD k 0 = m := by simp [List.getD, ← h2]
    have ih := lexAt_le ns ms (k + 1) (ns0 ++ [n]) (ms0 ++ [m]) (by simp [h1]) (by simp [h2])
    rw [List.append_assoc, List.append_assoc] at ih
    have em : min (n :: ns).length (m :: ms).length = min ns.length ms.length + 1 := by simp
    rw [em, HT.lexLt_cons]
    unfold Ob.lexAt
    simp only [g1, g2]
    by_cases e : n = m
    · subst e
      simpa using ih
    · have e' : ¬ m = n := fun z => e z.symm
      simp only [e, e', decide_false, if_false, Bool.false_eq_true]
      by_cases l : n ≤ m
      · have : ¬ m < n := by omega
        simp [l, this]
      · have : m < n := by omega
        simp [l, this]
/-- <=: ints; tuples of ints -/
def leD : W2 := fun d e P => match d, e with
  | .int i, .int j => P (.bool (decide (i ≤ j)))
  | .tuple xs, .tuple ys => ∃ ns ms : List Int, xs = ns.map .int ∧ ys = ms.map .int ∧ P (.bool (!HT.lexLt ms ns))
  | _, _ => False
theorem op_leAll {X : Cx} (hu : X.A.units < cLine) : OpR X (compareOp .LtE) (fun x y H Q => rI0 (fun i j => .bl (decide (i ≤ j))) x y H Q ∨ rLeT X.K x y H Q) := op_or op_le (op_leT hu)
theorem op2_le {K : PySem.W.Frag} : Op2 (fun x y H Q => rI0 (fun i j => .bl (decide (i ≤ j))) x y H Q ∨ rLeT K x y H Q) leD := by
  intro F S σ H ρ x y d e P Q R rx ry h q
  unfold leD at h
  split at h
  · cases rx; cases ry
    exact .inl ⟨_, _, rfl, rfl, q _ _ _ _ h (Le.refl S) R (.bl _)⟩
  · obtain ⟨ns, ms, rfl, rfl, h⟩ := h
    cases rx with
    | @tup a vs _ ha ra =>
      cases ry with
      | @tup b us _ hb rb =>
        obtain rfl := rps_ints ra
        obtain rfl := rps_ints rb
        refine .inr ⟨a, b, ns, ms, rfl, rfl, .inl (.inl (R.sub _ _ ha)), .inl (.inl (R.sub _ _ hb)), ?_⟩
        have e := lexAt_le ns ms 0 [] [] rfl rfl
        simp only [List.nil_append] at e
        rw [e]
        exact q _ _ _ _ h (Le.refl S) R (.bl _)
  · exact h.elim
theorem ae_lt (hu : X.A.units < cLine) (ha : AE X a wa) (hb : AE X b wb) (hm : behindInMarks .Lt b = false) : AE X (.Compare a [.Lt] [b] pos) (wBin ltD wa wb) := ae_cmp (op_ltAll hu) op2_lt ha hb hm
theorem ae_le (hu : X.A.units < cLine) (ha : AE X a wa) (hb : AE X b wb) (hm : behindInMarks .LtE b = false) : AE X (.Compare a [.LtE] [b] pos) (wBin leD wa wb) := ae_cmp (op_leAll hu) op2_le ha hb hm
theorem ae_gt (ha : AE X a wa) (hb : AE X b wb) (hm : behindInMarks .Gt b = false) : AE X (.Compare a [.Gt] [b] pos) (wBin (cmpD fun i j => decide (i > j)) wa wb) := ae_cmp op_gt op2_cmp ha hb hm
theorem ae_ge (ha : AE X a wa) (hb : AE X b wb) (hm : behindInMarks .GtE b = false) : AE X (.Compare a [.GtE] [b] pos) (wBin (cmpD fun i j => decide (i ≥ j)) wa wb) := ae_cmp op_ge op2_cmp ha hb hm
/-- ==, != of data without dicts -/
def okD (d : PyData) : Bool := SeqAt.shaped d
def eqD : W2 := fun d e P => match d, e with
  | .str x, .str y => P (.bool (decide (x = y)))
  | d, e => okD d = true ∧ okD e = true ∧ P (.bool (PyData.eqv d e))
def neD : W2 := fun d e P => match d, e with
  | .str x, .str y => P (.bool (!decide (x = y)))
  | d, e => okD d = true ∧ okD e = true ∧ P (.bool (!PyData.eqv d e))
theorem Rel.dp (K : PySem.W.Frag) {S H : Hp} {σ : L2.St} {ρ : AEnv} (R : Rel F S σ H ρ) {v : V} {d : PyData} (r : Rp S v d) (h : okD d = true) : Dp K H v d := rp_dp K (rp_mono (Le.of R.sub) r) (SeqAt.canLay_of_shaped h)
abbrev rEqA (K : PySem.W.Frag) : R2 := fun x y H Q => rEq x y H Q ∨ rEqD K x y H Q
abbrev rNeA (K : PySem.W.Frag) : R2 := fun x y H Q => rNe x y H Q ∨ rNeD K x y H Q
theorem op_eqA {X : Cx} (hu : X.A.units + 64 < cLine) : OpR X (compareOp .Eq) (rEqA X.K) := op_or op_eq (op_eqD hu)
theorem op_neA {X : Cx} (hu : X.A.units + 64 < cLine) : OpR X (compareOp .NotEq) (rNeA X.K) := op_or op_ne (op_neD hu)
theorem dec_strV {x y : Str} : decide (V.str x = V.str y) = decide (x = y) := by simp
theorem op2_eq {K : PySem.W.Frag} : Op2 (rEqA K) eqD := by
  intro F S σ H ρ x y d e P Q R rx ry h q
  unfold eqD at h
  split at h
  · cases rx; cases ry
    exact .inl ⟨rfl, by rw [dec_strV]; exact q _ _ _ _ h (Le.refl S) R (.bl _)⟩
  · exact .inr ⟨d, e, R.dp K rx h.1, R.dp K ry h.2.1, h.1, h.2.1, q _ _ _ _ h.2.2 (Le.refl S) R (.bl _)⟩
theorem op2_ne {K : PySem.W.Frag} : Op2 (rNeA K) neD := by
  intro F S σ H ρ x y d e P Q R rx ry h q
  unfold neD at h
  split at h
  · cases rx; cases ry
    exact .inl ⟨rfl, by rw [dec_strV]; exact q _ _ _ _ h (Le.refl S) R (.bl _)⟩
  · exact .inr ⟨d, e, R.dp K rx h.1, R.dp K ry h.2.1, h.1, h.2.1, q _ _ _ _ h.2.2 (Le.refl S) R (.bl _)⟩
theorem ae_eq (hu : X.A.units + 64 < cLine) (ha : AE X a wa) (hb : AE X b wb) (hm : behindInMarks .Eq b = false) : AE X (.Compare a [.Eq] [b] pos) (wBin eqD wa wb) := ae_cmp (op_eqA hu) op2_eq ha hb hm
theorem ae_ne (hu : X.A.units + 64 < cLine) (ha : AE X a wa) (hb : AE X b wb) (hm : behindInMarks .NotEq b = false) : AE X (.Compare a [.NotEq] [b] pos) (wBin neD wa wb) := ae_cmp (op_neA hu) op2_ne ha hb hm
/-- x in a list -/
def inD (neg : Bool) : W2 := fun d e P => match e with
  | .list ds => okD d = true ∧ okD (.list ds) = true ∧ P (.bool (xor neg (ds.any fun z => PyData.eqv z d)))
  | _ => False
theorem op2_in {K : PySem.W.Frag} : Op2 (rInD K) (inD false) := by
  intro F S σ H ρ x y d e P Q R rx ry h q
  unfold inD at h
  split at h
  · exact ⟨d, _, R.dp K rx h.1, R.dp K ry h.2.1, h.1, h.2.1, q _ _ _ _ (by simpa using h.2.2) (Le.refl S) R (.bl _)⟩
  · exact h.elim
theorem op2_notIn {K : PySem.W.Frag} : Op2 (rNotInD K) (inD true) := by
  intro F S σ H ρ x y d e P Q R rx ry h q
  unfold inD at h
  split at h
  · exact ⟨d, _, R.dp K rx h.1, R.dp K ry h.2.1, h.1, h.2.1, q _ _ _ _ (by simpa using h.2.2) (Le.refl S) R (.bl _)⟩
  · exact h.elim
theorem ae_in (hu : X.A.units + 65 < cLine) (ha : AE X a wa) (hb : AE X b wb) (hm : behindInMarks .In b = false) : AE X (.Compare a [.In] [b] pos) (wBin (inD false) wa wb) := ae_cmp (op_inD hu) op2_in ha hb hm
theorem ae_notIn (hu : X.A.units + 65 < cLine) (ha : AE X a wa) (hb : AE X b wb) (hm : behindInMarks .NotIn b = false) : AE X (.Compare a [.NotIn] [b] pos) (wBin (inD true) wa wb) := ae_cmp (op_notInD hu) op2_notIn ha hb hm
end
end AL

set_option Elab.async false
set_option linter.all false
set_option maxRecDepth 100000
set_option maxHeartbeats 4000000
namespace AL
open PySem PySem.Spec PyProof.Rows L2
/-! ### a new thing that is no one's yet -/
def NewAt (F S : Hp) (σ : L2.St) (H : Hp) (ρ : AEnv) (a : Addr) (o : MO) : Prop := ∃ fp q, RelW F S σ H ρ fp ∧ OwnAt S H a o q ∧ q.Nodup ∧ ∀ b ∈ q, S b = none ∧ F b = none ∧ H b ≠ none ∧ ∀ i, b ∉ fp i
section
variable {F S S' H H' : Hp} {σ : L2.St} {ρ : AEnv} {p a : Addr} {o : MO}
theorem new_at {u : HO} (R : Rel F S σ H ρ) (hp : H p = none) (h : OwnAt S (upd H p u) p o [p]) : NewAt F S σ (upd H p u) ρ p o := by
  obtain ⟨fp, r⟩ := R
  refine ⟨fp, [p], r.laid hp u, h, by simp, fun b hb => ?_⟩
  obtain rfl : b = p := by simpa using hb
  exact ⟨none_sub r.sub hp, none_sub r.frm hp, by rw [upd_same]; exact (fun z => by cases z), fun i hi => (r.out i b hi).2.2 hp⟩
theorem new_lst {vs : List V} {ds : List PyData} (R : Rel F S σ H ρ) (hp : H p = none) (r : RpAll S vs ds) : NewAt F S σ (upd H p (.lst vs)) ρ p (.lst ds) := new_at R hp ⟨rfl, vs, upd_same, r⟩
theorem new_dic {u : HO} {ds : PyData} (R : Rel F S σ H ρ) (hp : H p = none) (r : DicH S u ds) : NewAt F S σ (upd H p u) ρ p (.dic ds) := new_at R hp ⟨rfl, u, upd_same, r⟩
theorem NewAt.rel (N : NewAt F S σ H ρ a o) : Rel F S σ H ρ := let ⟨fp, _, r, _⟩ := N; ⟨fp, r⟩
theorem NewAt.put (N : NewAt F S σ H ρ a o) (i : Nat) : Rel F S (σ.set i (some (.ref a))) H (ρ.set i (.own o)) := by
  obtain ⟨fp, q, r, ow, nd, hq⟩ := N
  exact ⟨_, r.put (q := q) ⟨a, rfl, ow⟩ nd (fun b hb => ⟨(hq b hb).1, (hq b hb).2.1, (hq b hb).2.2.1⟩) fun j b _ hj hb => (hq b hb).2.2.2 j hj⟩
theorem rel_frz {fp : Nat → List Addr} {u : HO} (r : RelW F S σ H ρ fp) (h1 : S a = none) (h2 : F a = none) (h3 : H a = some u) (h4 : ∀ i, a ∉ fp i) : Rel F (upd S a u) σ H ρ :=
  ⟨fp, r.step (le_new h1) (frz_same h1 h3 r.sub) r.frm (fun j b hb => ⟨rfl, by rw [upd_ne (fun z => h4 j (by rw [← z]; exact hb))]; exact (r.out j b hb).1⟩) ⟨fun b v hb => (by
    rw [upd_ne (fun z => by rw [z, h2] at hb; cases hb)]; exact r.apt.1 b v hb), r.apt.2⟩⟩
theorem NewAt.frz {d : PyData} (N : NewAt F S σ H ρ a o) (hd : ownD o = some d) : ∃ S', Le S S' ∧ Rel F S' σ H ρ ∧ Rp S' (.ref a) d := by
  obtain ⟨fp, q, r, ow, nd, hq⟩ := N
  cases o with
  | lst xs =>
    cases hd
    obtain ⟨rfl, vs, hH, rr⟩ := ow
    obtain ⟨h1, h2, h3, h4⟩ := hq a List.mem_cons_self
    exact ⟨_, le_new h1, rel_frz r h1 h2 hH h4, .lst upd_same (rps_mono (le_new h1) rr)⟩
  | dic ds =>
    cases hd
    obtain ⟨rfl, u, hH, rr⟩ := ow
    obtain ⟨h1, h2, h3, h4⟩ := hq a List.mem_cons_self
    exact ⟨_, le_new h1, rel_frz r h1 h2 hH h4, .dic (.inl upd_same) (dich_mono (le_new h1) rr)⟩
  | lsts xss =>
    cases hd
    obtain ⟨ls, rfl, hH, rr⟩ := ow
    obtain ⟨na, ndl⟩ := List.nodup_cons.mp nd
    obtain ⟨S1, e1, r1, rp1, k⟩ := frz_all r (fun l hl => ⟨(hq l (List.mem_cons_of_mem _ hl)).1, (hq l (List.mem_cons_of_mem _ hl)).2.1, (hq l (List.mem_cons_of_mem _ hl)).2.2.2⟩) ndl rr
    obtain ⟨h1, h2, h3, h4⟩ := hq a List.mem_cons_self
    have hS1 := k a na h1
    exact ⟨_, e1.trans (le_new hS1), rel_frz r1 hS1 h2 hH h4, .lst upd_same (rps_mono (le_new hS1) rp1)⟩
  | src _ _ => cases hd
end
abbrev WO := (MO → AEnv → Prop) → AEnv → Prop
def two (F : Hp) (w : WO) : TE := fun σ H Q => ∃ S ρ P, Rel F S σ H ρ ∧ w P ρ ∧ ∀ o ρ' S' H' a, P o ρ' → Le S S' → NewAt F S' σ H' ρ' a o → Q (.ref a) H'
structure AO (X : Cx) (e : Expr) (w : WO) : Prop where pe : ∀ F : Hp, PE X e (two F w)
/-- a new thing as a datum -/
def wFz (w : WO) : WE := fun P ρ => w (fun o ρ' => match ownD o with | some d => P d ρ' | none => False) ρ
section
variable {X : Cx} {F : Hp} {e a b c : Expr} {es : List Expr} {pos : Pos} {w wa wb : WE}
theorem ae_frz {w : WO} (h : AO X e w) : AE X e (wFz w) := by
  refine ⟨fun F => PEimp (h.pe F) fun σ H Q ⟨S, ρ, P, R, hw, q⟩ => ⟨S, ρ, _, R, hw, fun o ρ' S' H' a hP e1 N => ?_⟩⟩
  split at hP
  · rename_i d hd
    obtain ⟨S2, e2, R2, r2⟩ := N.frz hd
    exact q _ _ _ _ _ hP (e1.trans e2) R2 r2
  · exact hP.elim
/-! ### tests -/
def wtB (w : WE) : WT := fun P ρ => w (fun d ρ' => match d with | .bool b => P b ρ' | _ => False) ρ
theorem wtB_go : ∀ σ H (Q : Bool → Hp → Prop), twt F (wtB w) σ H Q → tw F w σ H (fun x H' => ∃ k, x = .bl k ∧ Q k H') := fun σ H Q ⟨S, ρ, P, R, h, q⟩ =>
  ⟨S, ρ, _, R, h, fun d ρ' S' H' v hP e1 R1 r1 => by
    split at hP
    · cases r1; exact ⟨_, rfl, q _ _ _ _ hP e1 R1⟩
    · exact hP.elim⟩
theorem at_val (h : AE X e w) (he : ∀ whole, isTrue e X.env whole = (do let v ← whole; standAt e.pos; holding [v] (truthy v)) := by intro _; rfl) : AT X e (wtB w) := ⟨fun F => PTimp (pt_val (h.pe F) he) wtB_go⟩
/-- a comparison as a test -/
theorem at_cmp {op : CmpOp} {r : R2} {f : W2} (hop : OpR X (compareOp op) r) (hf : Op2 r f) (ha : AE X a wa) (hb : AE X b wb) (hm : behindInMarks op b = false) : AT X (.Compare a [op] [b] pos) (wtB (wBin f wa wb)) :=
  ⟨fun F => PTimp (pt_cmpR hop (ha.pe F) (hb.pe F) hm) fun σ H Q h => by
    obtain ⟨S, ρ, P, R, h, q⟩ := wtB_go σ H Q h
    exact bin_go hf σ H _ ⟨S, ρ, P, R, h, q⟩⟩
def wtNot (w : WT) : WT := fun P ρ => w (fun b ρ' => P (!b) ρ') ρ
def wtAnd (w u : WT) : WT := fun P ρ => w (fun b ρ' => if b = true then u P ρ' else P false ρ') ρ
def wtOr (w u : WT) : WT := fun P ρ => w (fun b ρ' => if b = true then P true ρ' else u P ρ') ρ
theorem at_not {w : WT} (h : AT X a w) : AT X (.UnaryOp .Not a pos) (wtNot w) := ⟨fun F => PTimp (pt_not (h.pt F)) fun σ H Q ⟨S, ρ, P, R, hw, q⟩ => ⟨S, ρ, _, R, hw, fun b ρ' S' H' hP e1 R1 => q _ _ _ _ hP e1 R1⟩⟩
theorem aw_pt {w : WT} (h : AW X e w) : AT X e w := ⟨fun F => (h.pw F).pt⟩
theorem aw_and1 {w : WT} (h : AT X a w) : AW X (.BoolOp .And [a] pos) w := ⟨fun F => pw_and1 (h.pt F)⟩
theorem aw_or1 {w : WT} (h : AT X a w) : AW X (.BoolOp .Or [a] pos) w := ⟨fun F => pw_or1 (h.pt F)⟩
theorem aw_and {rest : List Expr} {w u : WT} (h : AT X a w) (k : AW X (.BoolOp .And (b :: rest) pos) u) : AW X (.BoolOp .And (a :: b :: rest) pos) (wtAnd w u) :=
  ⟨fun F => PWimp (pw_and (h.pt F) (k.pw F)) fun σ H Q ⟨S, ρ, P, R, hw, q⟩ => ⟨S, ρ, _, R, hw, fun b ρ' S' H' hP e1 R1 => by
    cases b with
    | true => rw [if_pos rfl] at hP ⊢; exact ⟨S', ρ', P, R1, hP, fun b2 ρ2 S2 H2 h2 e2 R2 => q _ _ _ _ h2 (e1.trans e2) R2⟩
    | false => exact q _ _ _ _ hP e1 R1⟩⟩
theorem aw_or {rest : List Expr} {w u : WT} (h : AT X a w) (k : AW X (.BoolOp .Or (b :: rest) pos) u) : AW X (.BoolOp .Or (a :: b :: rest) pos) (wtOr w u) :=
  ⟨fun F => PWimp (pw_or (h.pt F) (k.pw F)) fun σ H Q ⟨S, ρ, P, R, hw, q⟩ => ⟨S, ρ, _, R, hw, fun b ρ' S' H' hP e1 R1 => by
    cases b with
    | true => exact q _ _ _ _ hP e1 R1
    | false => exact ⟨S', ρ', P, R1, hP, fun b2 ρ2 S2 H2 h2 e2 R2 => q _ _ _ _ h2 (e1.trans e2) R2⟩⟩⟩
/-! ### and, or, not as values -/
def wAndV (w u : WE) : WE := fun P ρ => w (fun d ρ' => match d with | .bool b => if b = true then u P ρ' else P (.bool false) ρ' | _ => False) ρ
def wOrV (w u : WE) : WE := fun P ρ => w (fun d ρ' => match d with | .bool b => if b = true then P (.bool true) ρ' else u P ρ' | _ => False) ρ
def wNotV (w : WE) : WE := fun P ρ => w (fun d ρ' => match d with | .bool b => P (.bool (!b)) ρ' | _ => False) ρ
theorem ae_one {op : BoolOp} (h : AE X a w) : AE X (.BoolOp op [a] pos) w := ⟨fun F => pe_one (h.pe F)⟩
theorem ae_and {rest : List Expr} {u : WE} (h : AE X a w) (k : AE X (.BoolOp .And (b :: rest) pos) u) : AE X (.BoolOp .And (a :: b :: rest) pos) (wAndV w u) :=
  ⟨fun F => PEimp (pe_and (h.pe F) (k.pe F)) fun σ H Q ⟨S, ρ, P, R, hw, q⟩ => ⟨S, ρ, _, R, hw, fun d ρ' S' H' v hP e1 R1 r1 => by
    split at hP
    · cases r1
      rename_i b
      refine ⟨b, rfl, ?_⟩
      cases b with
      | true => exact ⟨S', ρ', P, R1, hP, fun b2 ρ2 S2 H2 v2 h2 e2 R2 r2 => q _ _ _ _ _ h2 (e1.trans e2) R2 r2⟩
      | false => exact q _ _ _ _ _ hP e1 R1 (.bl false)
    · exact hP.elim⟩⟩
theorem ae_or {rest : List Expr} {u : WE} (h : AE X a w) (k : AE X (.BoolOp .Or (b :: rest) pos) u) : AE X (.BoolOp .Or (a :: b :: rest) pos) (wOrV w u) :=
  ⟨fun F => PEimp (pe_or (h.pe F) (k.pe F)) fun σ H Q ⟨S, ρ, P, R, hw, q⟩ => ⟨S, ρ, _, R, hw, fun d ρ' S' H' v hP e1 R1 r1 => by
    split at hP
    · cases r1
      rename_i b
      refine ⟨b, rfl, ?_⟩
      cases b with
      | true => exact q _ _ _ _ _ hP e1 R1 (.bl true)
      | false => exact ⟨S', ρ', P, R1, hP, fun b2 ρ2 S2 H2 v2 h2 e2 R2 r2 => q _ _ _ _ _ h2 (e1.trans e2) R2 r2⟩
    · exact hP.elim⟩⟩
theorem ae_not (h : AE X a w) : AE X (.UnaryOp .Not a pos) (wNotV w) :=
  ⟨fun F => PEimp (pe_not (h.pe F)) fun σ H Q ⟨S, ρ, P, R, hw, q⟩ => ⟨S, ρ, _, R, hw, fun d ρ' S' H' v hP e1 R1 r1 => by
    split at hP
    · cases r1; exact ⟨_, rfl, q _ _ _ _ _ hP e1 R1 (.bl _)⟩
    · exact hP.elim⟩⟩
def wNeg (w : WE) : WE := fun P ρ => w (fun d ρ' => match d with | .int i => P (.int (-i)) ρ' | _ => False) ρ
theorem ae_neg (h : AE X a w) : AE X (.UnaryOp .USub a pos) (wNeg w) :=
  ⟨fun F => PEimp (pe_un un_neg (h.pe F)) fun σ H Q ⟨S, ρ, P, R, hw, q⟩ => ⟨S, ρ, _, R, hw, fun d ρ' S' H' v hP e1 R1 r1 => by
    split at hP
    · cases r1; exact ⟨_, rfl, q _ _ _ _ _ hP e1 R1 (.int _)⟩
    · exact hP.elim⟩⟩
/-- a if t else b -/
def wIfE (t : WT) (wa wb : WE) : WE := fun P ρ => t (fun b ρ' => if b = true then wa P ρ' else wb P ρ') ρ
theorem ae_if {t : WT} (ht : AT X c t) (ha : AE X a wa) (hb : AE X b wb) : AE X (.IfExp c a b pos) (wIfE t wa wb) :=
  ⟨fun F => PEimp (pe_ifExp (ht.pt F) (ha.pe F) (hb.pe F)) fun σ H Q ⟨S, ρ, P, R, hw, q⟩ => ⟨S, ρ, _, R, hw, fun b ρ' S' H' hP e1 R1 => by
    cases b with
    | true => exact ⟨S', ρ', P, R1, hP, fun b2 ρ2 S2 H2 v2 h2 e2 R2 r2 => q _ _ _ _ _ h2 (e1.trans e2) R2 r2⟩
    | false => exact ⟨S', ρ', P, R1, hP, fun b2 ρ2 S2 H2 v2 h2 e2 R2 r2 => q _ _ _ _ _ h2 (e1.trans e2) R2 r2⟩⟩⟩
/-! ### argument lists, displays -/
def wNil : WA := fun P ρ => P [] ρ
def wCons (w : WE) (u : WA) : WA := fun P ρ => w (fun d ρ1 => u (fun ds ρ2 => P (d :: ds) ρ2) ρ1) ρ
theorem aa_nil : AA X [] wNil := ⟨fun F => PAimp pa_nil fun σ H Q ⟨S, ρ, P, R, hw, q⟩ => q _ _ _ _ _ hw (Le.refl S) R .nil⟩
theorem aa_cons {u : WA} (h : AE X e w) (k : AA X es u) (hs : starEach (e :: es) X.env = (false, eval e X.env) :: starEach es X.env := by rfl) : AA X (e :: es) (wCons w u) :=
  ⟨fun F => PAimp (pa_cons (h.pe F) (k.pa F) hs) fun σ H Q ⟨S, ρ, P, R, hw, q⟩ => ⟨S, ρ, _, R, hw, fun d ρ1 S1 H1 v h1 e1 R1 r1 => ⟨S1, ρ1, _, R1, h1, fun ds ρ2 S2 H2 vs h2 e2 R2 r2 => q _ _ _ _ _ h2 (e1.trans e2) R2 (.cons (rp_mono e2 r1) r2)⟩⟩⟩
def wTup (u : WA) : WE := fun P ρ => u (fun ds ρ' => ds.length ≤ sizeLine ∧ P (.tuple ds) ρ') ρ
theorem ae_tup {x1} {u : WA} (h : AA X es u) : AE X (.Tuple es x1 pos) (wTup u) :=
  ⟨fun F => PEimp (pe_tup (h.pa F)) fun σ H Q ⟨S, ρ, P, R, hw, q⟩ => ⟨S, ρ, _, R, hw, fun ds ρ' S' H' vs hP e1 R1 r1 => ⟨by rw [rps_length r1]; exact hP.1, fun p hp =>
    q _ _ _ _ _ hP.2 (e1.trans (le_new (none_sub R1.sub hp))) (R1.new hp _) (.tup upd_same (rps_mono (le_new (none_sub R1.sub hp)) r1))⟩⟩⟩
def wLst (u : WA) : WO := fun P ρ => u (fun ds ρ' => ds.length ≤ sizeLine ∧ P (.lst ds) ρ') ρ
theorem ao_lst {u : WA} (h : AA X es u) : AO X (.List es pos) (wLst u) :=
  ⟨fun F => PEimp (pe_lst (h.pa F)) fun σ H Q ⟨S, ρ, P, R, hw, q⟩ => ⟨S, ρ, _, R, hw, fun ds ρ' S' H' vs hP e1 R1 r1 => ⟨by rw [rps_length r1]; exact hP.1, fun p hp =>
    q _ _ _ _ _ hP.2 e1 (new_lst R1 hp r1)⟩⟩⟩
/-! ### items -/
def ixD : W2 := fun d e P => match d, e with
  | .list xs, .int i => ∃ x, atI xs i = some x ∧ P x
  | .tuple xs, .int i => ∃ x, atI xs i = some x ∧ P x
  | _, _ => False
theorem rps_at {S : Hp} {vs : List V} {ds : List PyData} {i : Int} {d : PyData} (r : RpAll S vs ds) (h : atI ds i = some d) : ∃ v, atI vs i = some v ∧ Rp S v d := by
  unfold atI at h ⊢
  rw [rps_length r]
  cases e : ixN ds.length i with
  | none => rw [e] at h; cases h
  | some j => rw [e] at h; exact rps_getd r h
theorem op2_ix {K : PySem.W.Frag} : Op2 (fun x y H Q => rIxL K x y H Q ∨ rIxT K x y H Q) ixD := by
  intro F S σ H ρ x y d e P Q R rx ry h q
  unfold ixD at h
  split at h
  · obtain ⟨d, h1, h2⟩ := h
    cases rx with
    | @lst a vs _ ha ra =>
      cases ry
      obtain ⟨v, hv, rv⟩ := rps_at ra h1
      exact .inl ⟨a, vs, _, v, rfl, rfl, .inl (.inl (R.sub _ _ ha)), hv, q _ _ _ _ h2 (Le.refl S) R rv⟩
  · obtain ⟨d, h1, h2⟩ := h
    cases rx with
    | @tup a vs _ ha ra =>
      cases ry
      obtain ⟨v, hv, rv⟩ := rps_at ra h1
      exact .inr ⟨a, vs, _, v, rfl, rfl, .inl (.inl (R.sub _ _ ha)), hv, q _ _ _ _ h2 (Le.refl S) R rv⟩
  · exact h.elim
theorem ae_ix (ha : AE X a wa) (hb : AE X b wb) (hs : PlainIx b) : AE X (.Subscript a b pos) (wBin ixD wa wb) := ⟨fun F => PEimp (pe_ix (ix_list.or ix_tup) (ha.pe F) (hb.pe F) hs) (bin_go op2_ix)⟩
/-! ### slices -/
abbrev WP := (Option Int → AEnv → Prop) → AEnv → Prop
def twp (F : Hp) (w : WP) : TO := fun σ H Q => ∃ S ρ P, Rel F S σ H ρ ∧ w P ρ ∧ ∀ o ρ' S' H', P o ρ' → Le S S' → Rel F S' σ H' ρ' → Q o H'
structure AP (X : Cx) (e : Option Expr) (w : WP) : Prop where po : ∀ F : Hp, PO X e (twp F w)
def wNo : WP := fun P ρ => P none ρ
def wPart (w : WE) : WP := fun P ρ => w (fun d ρ' => match d with | .int i => P (some i) ρ' | _ => False) ρ
theorem POimp {e : Option Expr} {t t' : TO} (h : PO X e t) (k : ∀ σ H Q, t' σ H Q → t σ H Q) : PO X e t' := ⟨fun pins s σ H Q I q => h.run pins s σ H Q I (k σ H Q q)⟩
theorem ap_none : AP X none wNo := ⟨fun F => POimp po_none fun σ H Q ⟨S, ρ, P, R, hw, q⟩ => q _ _ _ _ hw (Le.refl S) R⟩
theorem ap_some (h : AE X e w) : AP X (some e) (wPart w) := ⟨fun F => POimp (po_some (h.pe F)) fun σ H Q ⟨S, ρ, P, R, hw, q⟩ => ⟨S, ρ, _, R, hw, fun d ρ' S' H' v hP e1 R1 r1 => by
  split at hP
  · cases r1; exact ⟨_, rfl, q _ _ _ _ hP e1 R1⟩
  · exact hP.elim⟩⟩
def cutL {α : Type} (xs : List α) (lo hi : Option Int) : List α := (xs.drop (HT.sIx xs.length 0 lo)).take (HT.sIx xs.length xs.length hi - HT.sIx xs.length 0 lo)
theorem rps_cut {S : Hp} {vs : List V} {ds : List PyData} (lo hi : Option Int) (r : RpAll S vs ds) : RpAll S (cutV vs lo hi) (cutL ds lo hi) := by
  unfold cutV cutL
  rw [rps_length r]
  exact rps_take _ (rps_drop _ r)
theorem cut_whole {vs : List V} {lo hi : Option Int} (h : HT.sIx vs.length 0 lo = 0 ∧ HT.sIx vs.length vs.length hi = vs.length) : cutV vs lo hi = vs := by
  unfold cutV
  rw [h.1, h.2]
  simp
def wSl (w : WE) (l u : WP) : WE := fun P ρ => w (fun d ρ1 => l (fun lo ρ2 => u (fun hi ρ3 => match d with
  | .tuple xs => P (.tuple (cutL xs lo hi)) ρ3
  | .list xs => P (.list (cutL xs lo hi)) ρ3
  | _ => False) ρ2) ρ1) ρ
theorem ae_slice {lo hi : Option Expr} {p2 : Pos} {l u : WP} (h : AE X e w) (hl : AP X lo l) (hu : AP X hi u) : AE X (.Subscript e (.Slice lo hi none p2) pos) (wSl w l u) := by
  refine ⟨fun F => PEimp (pe_slice (SlR.or sl_tupA sl_list) (h.pe F) (hl.po F) (hu.po F)) fun σ H Q ⟨S, ρ, P, R, hw, q⟩ => ⟨S, ρ, _, R, hw, fun d ρ1 S1 H1 x h1 e1 R1 r1 => ⟨S1, ρ1, _, R1, h1, fun lo ρ2 S2 H2 h2 e2 R2 => ⟨S2, ρ2, _, R2, h2, fun hi ρ3 S3 H3 h3 e3 R3 => ?_⟩⟩⟩⟩
  have r3 := rp_mono (e2.trans e3) r1
  have e123 := (e1.trans e2).trans e3
  split at h3
  · cases r3 with
    | @tup a vs _ ha ra =>
      refine .inl ⟨a, vs, rfl, .inl (.inl (R3.sub _ _ ha)), fun hwh => ?_, fun _ p hp => ?_⟩
      · refine q _ _ _ _ _ h3 e123 R3 (.tup ha ?_)
        have := rps_cut lo hi ra
        rw [cut_whole hwh] at this
        exact this
      · exact q _ _ _ _ _ h3 (e123.trans (le_new (none_sub R3.sub hp))) (R3.new hp _) (.tup upd_same (rps_mono (le_new (none_sub R3.sub hp)) (rps_cut lo hi ra)))
  · cases r3 with
    | @lst a vs _ ha ra =>
      exact .inr ⟨a, vs, rfl, .inl (.inl (R3.sub _ _ ha)), fun p hp => q _ _ _ _ _ h3 (e123.trans (le_new (none_sub R3.sub hp))) (R3.new hp _) (.lst upd_same (rps_mono (le_new (none_sub R3.sub hp)) (rps_cut lo hi ra)))⟩
  · exact h3.elim
/-- xs[::-1] of a list -/
def wRevL (w : WE) : WE := fun P ρ => w (fun d ρ1 => match d with | .list xs => P (.list xs.reverse) ρ1 | _ => False) ρ
theorem ae_revL {k : Nat} {p1 p2 p3 : Pos} (h : AE X e w) : AE X (.Subscript e (.Slice none none (some (.UnaryOp .USub (.Constant (.int 1) k p1) p2)) p3) pos) (wRevL w) :=
  ⟨fun F => PEimp (pe_revL (h.pe F)) fun σ H Q ⟨S, ρ, P, R, hw, q⟩ => ⟨S, ρ, _, R, hw, fun d ρ1 S1 H1 x h1 e1 R1 r1 => by
    split at h1
    · cases r1 with
      | @lst a vs _ ha ra =>
        exact ⟨a, vs, rfl, .inl (.inl (R1.sub _ _ ha)), fun p hp => q _ _ _ _ _ h1 (e1.trans (le_new (none_sub R1.sub hp))) (R1.new hp _) (.lst upd_same (rps_mono (le_new (none_sub R1.sub hp)) (rps_rev ra)))⟩
    · exact h1.elim⟩⟩
end
end AL

set_option Elab.async false
set_option linter.all false
set_option maxRecDepth 100000
set_option maxHeartbeats 4000000
namespace AL
open PySem PySem.Spec PyProof.Rows L2
section
variable {X : Cx} {F : Hp} {e a b c : Expr} {es : List Expr} {pos : Pos} {w wa wb : WE} {st : Stmt} {sts : List Stmt}
/-! ### statements -/
def wNext : WS := fun k ρ => k.nx ρ
def wSeq (w u : WS) : WS := fun k ρ => w { k with nx := u k } ρ
def wSet (i : Nat) (w : WE) : WS := fun k ρ => w (fun d ρ' => k.nx (ρ'.set i (.dat d))) ρ
def wSetO (i : Nat) (w : WO) : WS := fun k ρ => w (fun o ρ' => k.nx (ρ'.set i (.own o))) ρ
def wRet (w : WE) : WS := fun k ρ => w k.rt ρ
def wRetN : WS := fun k ρ => k.rt .none ρ
def wIf (t : WT) (w u : WS) : WS := fun k ρ => t (fun b ρ' => if b = true then w k ρ' else u k ρ') ρ
def wDrop (w : WE) : WS := fun k ρ => w (fun _ ρ' => k.nx ρ') ρ
def wBrk : WS := fun k ρ => k.bk ρ
def wCnt : WS := fun k ρ => k.ct ρ
def wNever : WS := fun _ _ => False
theorem as_never : AS X st wNever := ⟨fun F => PSimp ps_never fun D σ H ⟨S, ρ, k, R, h, _⟩ => h.elim⟩
theorem as_pass : AS X (.Pass pos) wNext := ⟨fun F => PSimp ps_pass fun D σ H ⟨S, ρ, k, R, h, q, _⟩ => q _ _ _ _ h (Le.refl S) R⟩
theorem as_break : AS X (.Break pos) wBrk := ⟨fun F => PSimp ps_break fun D σ H ⟨S, ρ, k, R, h, _, _, q, _⟩ => q _ _ _ _ h (Le.refl S) R⟩
theorem as_continue : AS X (.Continue pos) wCnt := ⟨fun F => PSimp ps_continue fun D σ H ⟨S, ρ, k, R, h, _, _, _, q⟩ => q _ _ _ _ h (Le.refl S) R⟩
theorem as_expr (h : AE X e w) (hs : swapsWith e none pos.line X.env = pure false := by rfl) : AS X (.Expr e pos) (wDrop w) :=
  ⟨fun F => PSimp (ps_expr (h.pe F) hs) fun D σ H ⟨S, ρ, k, R, hw, q, _⟩ => ⟨S, ρ, _, R, hw, fun d ρ' S' H' v hP e1 R1 _ => q _ _ _ _ hP e1 R1⟩⟩
theorem as_ret (h : AE X e w) : AS X (.Return (some e) pos) (wRet w) :=
  ⟨fun F => PSimp (ps_ret (h.pe F)) fun D σ H ⟨S, ρ, k, R, hw, _, q, _⟩ => ⟨S, ρ, _, R, hw, fun d ρ' S' H' v hP e1 R1 r1 => q _ _ _ _ _ _ hP e1 R1 r1⟩⟩
theorem as_retN : AS X (.Return none pos) wRetN :=
  ⟨fun F => PSimp ps_retN fun D σ H ⟨S, ρ, k, R, hw, _, q, _⟩ => q _ _ _ _ _ _ hw (Le.refl S) R .non⟩
theorem as_set {i : Nat} {x : Str} {pos' : Pos} (hN : X.N.Nodup) (hi : X.N[i]? = some x) (hx : Loc X.env.scope x) (h : AE X e w) (hs : swapsWith e (some (.Name x pos')) pos.line X.env = pure false := by rfl) (hf : X.fn x = true ∨ X.env.scope.names.lookup x = some .local := by first | exact .inl rfl | exact .inr rfl | assumption) :
    AS X (.Assign [.Name x pos'] e pos) (wSet i w) :=
  ⟨fun F => PSimp (ps_set hN hi hx (h.pe F) hs hf) fun D σ H ⟨S, ρ, k, R, hw, q, _⟩ => ⟨S, ρ, _, R, hw, fun d ρ' S' H' v hP e1 R1 r1 => q _ _ _ _ hP e1 (R1.putDat i r1)⟩⟩
theorem as_setO {i : Nat} {x : Str} {pos' : Pos} {w : WO} (hN : X.N.Nodup) (hi : X.N[i]? = some x) (hx : Loc X.env.scope x) (h : AO X e w) (hs : swapsWith e (some (.Name x pos')) pos.line X.env = pure false := by rfl) (hf : X.fn x = true ∨ X.env.scope.names.lookup x = some .local := by first | exact .inl rfl | exact .inr rfl | assumption) :
    AS X (.Assign [.Name x pos'] e pos) (wSetO i w) :=
  ⟨fun F => PSimp (ps_set hN hi hx (h.pe F) hs hf) fun D σ H ⟨S, ρ, k, R, hw, q, _⟩ => ⟨S, ρ, _, R, hw, fun o ρ' S' H' v hP e1 N1 => q _ _ _ _ hP e1 (N1.put i)⟩⟩
theorem as_if {p r : List Stmt} {t : WT} {u v : WS} (hc : AT X c t) (ha : ASs X p u) (hb : ASs X r v) : AS X (.If c p r pos) (wIf t u v) :=
  ⟨fun F => PSimp (ps_if (hc.pt F) (ha.pss F) (hb.pss F)) fun D σ H ⟨S, ρ, k, R, hw, q1, q2, q3, q4⟩ => ⟨S, ρ, _, R, hw, fun b ρ' S' H' hP e1 R1 => by
    cases b with
    | true => exact ⟨S', ρ', k, R1, hP, fun _ _ _ _ h e2 R2 => q1 _ _ _ _ h (e1.trans e2) R2, fun _ _ _ _ _ _ h e2 R2 r2 => q2 _ _ _ _ _ _ h (e1.trans e2) R2 r2, fun _ _ _ _ h e2 R2 => q3 _ _ _ _ h (e1.trans e2) R2, fun _ _ _ _ h e2 R2 => q4 _ _ _ _ h (e1.trans e2) R2⟩
    | false => exact ⟨S', ρ', k, R1, hP, fun _ _ _ _ h e2 R2 => q1 _ _ _ _ h (e1.trans e2) R2, fun _ _ _ _ _ _ h e2 R2 r2 => q2 _ _ _ _ _ _ h (e1.trans e2) R2 r2, fun _ _ _ _ h e2 R2 => q3 _ _ _ _ h (e1.trans e2) R2, fun _ _ _ _ h e2 R2 => q4 _ _ _ _ h (e1.trans e2) R2⟩⟩⟩
theorem ass_nil : ASs X [] wNext := ⟨fun F => PSsimp pss_nil fun D σ H ⟨S, ρ, k, R, h, q, _⟩ => q _ _ _ _ h (Le.refl S) R⟩
theorem ass_one {u : WS} (h : AS X st u) : ASs X [st] u := ⟨fun F => pss_one (h.ps F)⟩
theorem ass_cons {u v : WS} (h : AS X st u) (hr : ASs X sts v) : ASs X (st :: sts) (wSeq u v) :=
  ⟨fun F => PSsimp (pss_cons (h.ps F) (hr.pss F)) fun D σ H ⟨S, ρ, k, R, hw, q1, q2, q3, q4⟩ => ⟨S, ρ, { k with nx := v k }, R, hw, fun ρ' S' σ' H' hP e1 R1 =>
    ⟨S', ρ', k, R1, hP, fun _ _ _ _ h e2 R2 => q1 _ _ _ _ h (e1.trans e2) R2, fun _ _ _ _ _ _ h e2 R2 r2 => q2 _ _ _ _ _ _ h (e1.trans e2) R2 r2, fun _ _ _ _ h e2 R2 => q3 _ _ _ _ h (e1.trans e2) R2, fun _ _ _ _ h e2 R2 => q4 _ _ _ _ h (e1.trans e2) R2⟩, q2, q3, q4⟩⟩
/-- a, b = x, y (two local names), the values data or new things -/
abbrev WM := (PyData ⊕ MO → AEnv → Prop) → AEnv → Prop
def avOf : PyData ⊕ MO → AV
  | .inl d => .dat d
  | .inr o => .own o
/-! ### targets -/
abbrev WG := PyData → (AEnv → Prop) → AEnv → Prop
abbrev WGs := List PyData → (AEnv → Prop) → AEnv → Prop
def twg (F : Hp) (g : WG) : TG := fun v σ H Q => ∃ S ρ P d, Rel F S σ H ρ ∧ Rp S v d ∧ g d P ρ ∧ ∀ ρ' S' σ' H', P ρ' → Le S S' → Rel F S' σ' H' ρ' → Q σ' H'
def twgs (F : Hp) (g : WGs) : TGs := fun vs σ H Q => ∃ S ρ P ds, Rel F S σ H ρ ∧ RpAll S vs ds ∧ g ds P ρ ∧ ∀ ρ' S' σ' H', P ρ' → Le S S' → Rel F S' σ' H' ρ' → Q σ' H'
structure AG (X : Cx) (tg : Expr) (g : WG) : Prop where pg : ∀ F : Hp, PG X tg (twg F g)
structure AGs (X : Cx) (ts : List Expr) (g : WGs) : Prop where pgs : ∀ F : Hp, PGs X ts (twgs F g)
theorem PGimp {tg : Expr} {t t' : TG} (h : PG X tg t) (k : ∀ v σ H Q, t' v σ H Q → t v σ H Q) : PG X tg t' := ⟨fun pins s σ H v u Q I r q => h.run pins s σ H v u Q I r (k v σ H Q q)⟩
theorem PGsimp {ts : List Expr} {t t' : TGs} (h : PGs X ts t) (k : ∀ v σ H Q, t' v σ H Q → t v σ H Q) : PGs X ts t' := ⟨fun pins s σ H v u Q I r q => h.run pins s σ H v u Q I r (k v σ H Q q)⟩
def gN (i : Nat) : WG := fun d P ρ => P (ρ.set i (.dat d))
def gNilA : WGs := fun ds P ρ => ds = [] ∧ P ρ
def gConsA (g : WG) (u : WGs) : WGs := fun ds P ρ => match ds with
  | d :: ds => g d (fun ρ' => u ds P ρ') ρ
  | [] => False
def gTupA (n : Nat) (u : WGs) : WG := fun d P ρ => match d with
  | .tuple ds => ds.length = n ∧ u ds P ρ
  | _ => False
theorem ag_name {i : Nat} {x : Str} (hN : X.N.Nodup) (hi : X.N[i]? = some x) (hx : Loc X.env.scope x) (hf : X.fn x = true ∨ X.env.scope.names.lookup x = some .local := by first | exact .inl rfl | exact .inr rfl | assumption) : AG X (.Name x pos) (gN i) :=
  ⟨fun F => PGimp (pg_name hN hi hx hf) fun v σ H Q ⟨S, ρ, P, d, R, r, h, q⟩ => q _ _ _ _ h (Le.refl S) (R.putDat i r)⟩
theorem ags_nil : AGs X [] gNilA := ⟨fun F => PGsimp pgs_nil fun vs σ H Q ⟨S, ρ, P, ds, R, r, h, q⟩ => by
  obtain ⟨rfl, h⟩ := h
  cases r
  exact ⟨rfl, q _ _ _ _ h (Le.refl S) R⟩⟩
theorem ags_cons {g : WG} {u : WGs} (h : AG X e g) (k : AGs X es u) (hs : (assignEach (e :: es) X.env).map (·.2) = assign e X.env :: (assignEach es X.env).map (·.2) := by rfl) : AGs X (e :: es) (gConsA g u) :=
  ⟨fun F => PGsimp (pgs_cons (h.pg F) (k.pgs F) hs) fun vs σ H Q ⟨S, ρ, P, ds, R, r, h, q⟩ => by
    cases r with
    | nil => exact h.elim
    | cons r1 r2 => exact ⟨_, _, rfl, S, ρ, _, _, R, r1, h, fun ρ' S' σ' H' hP e1 R1 => ⟨S', ρ', P, _, R1, rps_mono e1 r2, hP, fun _ _ _ _ h2 e2 R2 => q _ _ _ _ h2 (e1.trans e2) R2⟩⟩⟩
theorem ag_tup {kk n : Nat} {u : WGs} (hc : X.calm = true) (h : AGs X es u) (hn : (assignEach es X.env).length = n := by rfl) (hst : (assignEach es X.env).findIdx? (·.1) = none := by rfl) : AG X (.Tuple es kk pos) (gTupA n u) :=
  ⟨fun F => PGimp (pg_tup hc (h.pgs F) hn hst) fun v σ H Q ⟨S, ρ, P, d, R, r, h, q⟩ => by
    unfold gTupA at h
    split at h
    · cases r with
      | @tup a vs _ ha ra => exact ⟨a, vs, rfl, .inl (.inl (R.sub _ _ ha)), by rw [rps_length ra]; exact h.1, S, ρ, P, _, R, ra, h.2, q⟩
    · exact h.elim⟩
/-- target = value -/
def wAsg (w : WE) (g : WG) : WS := fun k ρ => w (fun d ρ' => g d k.nx ρ') ρ
theorem as_asg {tg : Expr} {g : WG} (h : AE X e w) (hg : AG X tg g) (hs : swapsWithSole [tg] e pos.line X.env = pure false := by rfl) (hw : swappedStores [tg] e X.env = pure none := by rfl)
    (h1 : (assignEach [tg] X.env).map (·.2) = [assign tg X.env] := by rfl) : AS X (.Assign [tg] e pos) (wAsg w g) :=
  ⟨fun F => PSimp (ps_asg (h.pe F) (hg.pg F) hs hw h1) fun D σ H ⟨S, ρ, k, R, hw, q, _⟩ => ⟨S, ρ, _, R, hw, fun d ρ' S' H' v hP e1 R1 r1 => ⟨S', ρ', _, d, R1, r1, hP, fun _ _ _ _ h2 e2 R2 => q _ _ _ _ h2 (e1.trans e2) R2⟩⟩⟩

/-! ### loops -/
/-- from S on: turn i gives the i-th datum, the end is behind the last -/
def ItOk (J : It) (S : Hp) (ds : List PyData) : Prop := ∀ (i : Nat) (F S1 : Hp) (σ : L2.St) (H : Hp) (ρ : AEnv), Le S S1 → Rel F S1 σ H ρ →
  (∀ d, ds[i]? = some d → J.go i H ∧ ∀ x H', J.yld i H x H' → ∃ S2, Le S1 S2 ∧ Rel F S2 σ H' ρ ∧ Rp S2 x d) ∧ (ds.length ≤ i → J.stop i H)
theorem ItOk.mono {J : It} {S S' : Hp} {ds : List PyData} (h : ItOk J S ds) (e : Le S S') : ItOk J S' ds := fun i F S1 σ H ρ e1 R => h i F S1 σ H ρ (e.trans e1) R
abbrev WI := (List PyData → AEnv → Prop) → AEnv → Prop
def twi (F : Hp) (wi : WI) : TI := fun σ H R => ∃ S ρ P, Rel F S σ H ρ ∧ wi P ρ ∧ ∀ ds ρ' S' H' J, P ds ρ' → Le S S' → Rel F S' σ H' ρ' → ItOk J S' ds → R J H'
structure AI (X : Cx) (tg iter : Expr) (wi : WI) : Prop where pi : ∀ F : Hp, PI X tg iter (twi F wi)
theorem PIimp {tg iter : Expr} {t t' : TI} (h : PI X tg iter t) (k : ∀ σ H R, t' σ H R → t σ H R) : PI X tg iter t' := ⟨fun pins s σ H R I q => h.run pins s σ H R I (k σ H R q)⟩
def fgt (fg : List Nat) (ρ : AEnv) : AEnv := fg.foldl (fun r i => r.set i .unk) ρ
theorem Rel.fgt {S H : Hp} {σ : L2.St} : ∀ (fg : List Nat) {ρ : AEnv}, Rel F S σ H ρ → Rel F S σ H (fgt fg ρ)
  | [], _, R => R
  | i :: fg, _, R => Rel.fgt fg (R.forget i)
def wForL (g : WG) (wb : WS) (fg : List Nat) (k : Ko) : List PyData → AEnv → Prop
  | [], ρ => k.nx (fgt fg ρ)
  | d :: ds, ρ => g d (fun ρ1 => wb { nx := wForL g wb fg k ds, rt := k.rt, bk := k.nx, ct := wForL g wb fg k ds } ρ1) (fgt fg ρ)
def wFor (wi : WI) (g : WG) (wb : WS) (fg : List Nat) : WS := fun k ρ => wi (fun ds ρ' => wForL g wb fg k ds ρ') ρ
theorem as_for {tg iter : Expr} {body : List Stmt} {wi : WI} {g : WG} {u : WS} (fg : List Nat) (hp : PassesOwn (model X.prog X.w) X.A X.env X.xe) (hc : X.calm = true) (hi : AI X tg iter wi) (hg : AG X tg g) (hb : ASs X body u)
    (hs : ∀ x, foldedSetIterable iter X.env x = pure x := by intro _; rfl) : AS X (.For tg iter body [] pos) (wFor wi g u fg) := by
  refine ⟨fun F => PSimp (ps_for hp hc (hi.pi F) (hg.pg F) (hb.pss F) hs) fun D σ H ⟨S, ρ, k, R, hw, q1, q2, q3, q4⟩ => ⟨S, ρ, _, R, hw, fun ds ρ1 S1 H1 J hP e1 R1 hJ => ?_⟩⟩
  refine ⟨fun i m σ' H' => ∃ S2 ρ2, Le S1 S2 ∧ Rel F S2 σ' H' ρ2 ∧ wForL g u fg k (ds.drop i) ρ2 ∧ m = ds.length - i ∧ i ≤ ds.length, ⟨ds.length, S1, ρ1, Le.refl S1, R1, hP, rfl, Nat.zero_le _⟩, ?_⟩
  rintro i m σ' H' ⟨S2, ρ2, e2, R2, hw2, rfl, hi⟩
  by_cases hlt : i < ds.length
  · obtain ⟨go, yl⟩ := (hJ i F S2 σ' H' ρ2 e2 R2).1 ds[i] (List.getElem?_eq_getElem hlt)
    refine .inr ⟨go, fun σ3 H3 => ∃ S3 ρ3, Le S1 S3 ∧ Rel F S3 σ3 H3 ρ3 ∧ wForL g u fg k (ds.drop (i + 1)) ρ3, fun σ3 H3 ⟨S3, ρ3, e3, R3, w3⟩ => ⟨ds.length - (i + 1), by omega, S3, ρ3, e3, R3, w3, rfl, hlt⟩, fun x H3 hy => ?_⟩
    obtain ⟨S3, e3, R3, r3⟩ := yl x H3 hy
    rw [List.drop_eq_getElem_cons hlt] at hw2
    refine ⟨S3, _, _, ds[i], R3.fgt fg, r3, hw2, fun ρ4 S4 σ4 H4 h4 e4 R4 => ?_⟩
    exact ⟨S4, ρ4, _, R4, h4, fun ρ5 S5 σ5 H5 h5 e5 R5 => ⟨S5, ρ5, ((e2.trans e3).trans e4).trans e5, R5, h5⟩,
      fun d ρ5 S5 σ5 H5 v h5 e5 R5 r5 => q2 _ _ _ _ _ _ h5 (e1.trans (((e2.trans e3).trans e4).trans e5)) R5 r5,
      fun ρ5 S5 σ5 H5 h5 e5 R5 => q1 _ _ _ _ h5 (e1.trans (((e2.trans e3).trans e4).trans e5)) R5,
      fun ρ5 S5 σ5 H5 h5 e5 R5 => ⟨S5, ρ5, ((e2.trans e3).trans e4).trans e5, R5, h5⟩⟩
  · have e : i = ds.length := by omega
    subst e
    rw [List.drop_length] at hw2
    exact .inl ⟨(hJ _ F S2 σ' H' ρ2 e2 R2).2 (Nat.le_refl _), q1 _ _ _ _ hw2 (e1.trans e2) (R2.fgt fg)⟩
def wWhileN (t : WT) (wb : WS) (fg : List Nat) (k : Ko) : Nat → AEnv → Prop
  | 0, _ => False
  | n + 1, ρ => t (fun b ρ1 => if b = true then wb { nx := wWhileN t wb fg k n, rt := k.rt, bk := k.nx, ct := wWhileN t wb fg k n } ρ1 else k.nx ρ1) (fgt fg ρ)
def wWhile (t : WT) (wb : WS) (fg : List Nat) : WS := fun k ρ => ∃ n, wWhileN t wb fg k n ρ
theorem as_while {body : List Stmt} {t : WT} {u : WS} (fg : List Nat) (hp : PassesOwn (model X.prog X.w) X.A X.env X.xe) (hc : AT X c t) (hb : ASs X body u) : AS X (.While c body [] pos) (wWhile t u fg) := by
  refine ⟨fun F => PSimp (ps_while hp (hc.pt F) (hb.pss F)) fun D σ H ⟨S, ρ, k, R, ⟨n, hw⟩, q1, q2, q3, q4⟩ => ?_⟩
  refine ⟨fun m σ' H' => ∃ S2 ρ2, Le S S2 ∧ Rel F S2 σ' H' ρ2 ∧ wWhileN t u fg k m ρ2, ⟨n, S, ρ, Le.refl S, R, hw⟩, ?_⟩
  rintro m σ' H' ⟨S2, ρ2, e2, R2, w2⟩
  cases m with
  | zero => exact w2.elim
  | succ m =>
    refine ⟨S2, _, _, R2.fgt fg, w2, fun b ρ3 S3 H3 h3 e3 R3 => ?_⟩
    cases b with
    | true =>
      refine ⟨fun σ4 H4 => ∃ S4 ρ4, Le S S4 ∧ Rel F S4 σ4 H4 ρ4 ∧ wWhileN t u fg k m ρ4, fun σ4 H4 ⟨S4, ρ4, e4, R4, w4⟩ => ⟨m, Nat.lt_succ_self m, S4, ρ4, e4, R4, w4⟩, S3, ρ3, _, R3, h3, ?_, ?_, ?_, ?_⟩
      · exact fun ρ5 S5 σ5 H5 h5 e5 R5 => ⟨S5, ρ5, (e2.trans e3).trans e5, R5, h5⟩
      · exact fun d ρ5 S5 σ5 H5 v h5 e5 R5 r5 => q2 _ _ _ _ _ _ h5 ((e2.trans e3).trans e5) R5 r5
      · exact fun ρ5 S5 σ5 H5 h5 e5 R5 => q1 _ _ _ _ h5 ((e2.trans e3).trans e5) R5
      · exact fun ρ5 S5 σ5 H5 h5 e5 R5 => ⟨S5, ρ5, (e2.trans e3).trans e5, R5, h5⟩
    | false => exact q1 _ _ _ _ h3 (e2.trans e3) R3
/-! ### what is walked -/
def wiL (w : WE) : WI := fun P ρ => w (fun d ρ' => match d with | .list ds => P ds ρ' | _ => False) ρ
def wiT (w : WE) : WI := fun P ρ => w (fun d ρ' => match d with | .tuple ds => P ds ρ' | _ => False) ρ
theorem ai_list {tg : Expr} (h : AE X e w) : AI X tg e (wiL w) :=
  ⟨fun F => PIimp (pi_list (h.pe F)) fun σ H R ⟨S, ρ, P, R0, hw, q⟩ => ⟨S, ρ, _, R0, hw, fun d ρ' S' H' v hP e1 R1 r1 => by
    split at hP
    · rename_i ds
      cases r1 with
      | @lst a vs _ ha ra =>
        refine ⟨a, rfl, ⟨vs, .inl (.inl (R1.sub _ _ ha))⟩, q _ _ _ _ _ hP e1 R1 fun i F2 S1 σ1 H1 ρ1 e2 R2 => ?_⟩
        have hq : SqL X.K H1 a vs := .inl (.inl (R2.sub _ _ (e2.lst ha)))
        refine ⟨fun d hd => ?_, fun hl => ⟨vs, hq, by rw [rps_length ra]; exact hl⟩⟩
        obtain ⟨v, hv, rv⟩ := rps_getd ra hd
        refine ⟨⟨vs, v, hq, hv⟩, fun x H' hy => ?_⟩
        obtain ⟨rfl, hy⟩ := hy
        have := hy vs hq
        rw [hv] at this
        cases this
        exact ⟨S1, Le.refl S1, R2, rp_mono e2 rv⟩
    · exact hP.elim⟩⟩
theorem ai_tup {tg : Expr} (h : AE X e w) : AI X tg e (wiT w) :=
  ⟨fun F => PIimp (pi_tup (h.pe F)) fun σ H R ⟨S, ρ, P, R0, hw, q⟩ => ⟨S, ρ, _, R0, hw, fun d ρ' S' H' v hP e1 R1 r1 => by
    split at hP
    · rename_i ds
      cases r1 with
      | @tup a vs _ ha ra =>
        refine ⟨a, rfl, ⟨vs, .inl (.inl (R1.sub _ _ ha))⟩, q _ _ _ _ _ hP e1 R1 fun i F2 S1 σ1 H1 ρ1 e2 R2 => ?_⟩
        have hq : SqT X.K H1 a vs := .inl (.inl (R2.sub _ _ (e2.tup ha)))
        refine ⟨fun d hd => ?_, fun hl => ⟨vs, hq, by rw [rps_length ra]; exact hl⟩⟩
        obtain ⟨v, hv, rv⟩ := rps_getd ra hd
        refine ⟨⟨vs, v, hq, hv⟩, fun x H' hy => ?_⟩
        obtain ⟨rfl, hy⟩ := hy
        have := hy vs hq
        rw [hv] at this
        cases this
        exact ⟨S1, Le.refl S1, R2, rp_mono e2 rv⟩
    · exact hP.elim⟩⟩
/-- lo, lo + 1, .. (n of them) -/
def rangeL (lo : Int) (n : Nat) : List PyData := (List.range n).map fun (i : Nat) => PyData.int (lo + i)
def rangeC (lo c : Int) (n : Nat) : List PyData := (List.range n).map fun (i : Nat) => PyData.int (lo + (i : Nat) * c)
theorem itr_ok {lo : Int} {n : Nat} {S : Hp} : ItOk (Itr lo n) S (rangeL lo n) := by
  intro i F S1 σ H ρ e R
  unfold rangeL
  refine ⟨fun d hd => ?_, fun hl => by show n ≤ i; simpa using hl⟩
  rw [List.getElem?_map] at hd
  obtain ⟨j, hj, rfl⟩ := Option.map_eq_some_iff.mp hd
  obtain ⟨hi, rfl⟩ := List.getElem?_eq_some_iff.mp hj
  rw [List.length_range] at hi
  refine ⟨hi, fun x H' hy => ?_⟩
  obtain ⟨rfl, rfl⟩ := hy
  rw [List.getElem_range]
  exact ⟨S1, Le.refl S1, R, .int _⟩
theorem itc_ok {lo c : Int} {n : Nat} {S : Hp} : ItOk (Itc lo c n) S (rangeC lo c n) := by
  intro i F S1 σ H ρ e R
  unfold rangeC
  refine ⟨fun d hd => ?_, fun hl => by show n ≤ i; simpa using hl⟩
  rw [List.getElem?_map] at hd
  obtain ⟨j, hj, rfl⟩ := Option.map_eq_some_iff.mp hd
  obtain ⟨hi, rfl⟩ := List.getElem?_eq_some_iff.mp hj
  rw [List.length_range] at hi
  refine ⟨hi, fun x H' hy => ?_⟩
  obtain ⟨rfl, rfl⟩ := hy
  rw [List.getElem_range]
  exact ⟨S1, Le.refl S1, R, .int _⟩
def small62 (i : Int) : Prop := -(2 ^ 62) ≤ i ∧ i < 2 ^ 62
def wiR1 (u : WA) : WI := fun P ρ => u (fun ds ρ' => match ds with | [.int j] => small62 j ∧ P (rangeL 0 j.toNat) ρ' | _ => False) ρ
def wiR2 (u : WA) : WI := fun P ρ => u (fun ds ρ' => match ds with | [.int i, .int j] => (small62 i ∧ small62 j) ∧ P (rangeL i (j - i).toNat) ρ' | _ => False) ρ
/-- range(i, j, -1) -/
def wiR3 (u : WA) : WI := fun P ρ => u (fun ds ρ' => match ds with | [.int i, .int j, .int k] => (k = -1 ∧ small62 i ∧ small62 j) ∧ P (rangeC i (-1) (i - j).toNat) ρ' | _ => False) ρ
theorem ai_range1 {tg : Expr} {p : Pos} {u : WA} (hg : Gl X "range") (hm : X.mg "range" = none) (ha : AA X [a] u) (hs : starEach [a] X.env = [(false, eval a X.env)] := by rfl) : AI X tg (.Call (.Name "range" p) [a] [] pos) (wiR1 u) :=
  ⟨fun F => PIimp (pi_range1 hg hm (ha.pa F) hs) fun σ H R ⟨S, ρ, P, R0, hw, q⟩ => ⟨S, ρ, _, R0, hw, fun ds ρ' S' H' vs hP e1 R1 r1 => by
    split at hP
    · cases r1 with
      | cons h t =>
        cases t
        cases h
        exact ⟨_, rfl, hP.1.1, hP.1.2, q _ _ _ _ _ hP.2 e1 R1 itr_ok⟩
    · exact hP.elim⟩⟩
theorem ai_range2 {tg : Expr} {p : Pos} {u : WA} (hg : Gl X "range") (hm : X.mg "range" = none) (ha : AA X [a, b] u) (hs : starEach [a, b] X.env = [(false, eval a X.env), (false, eval b X.env)] := by rfl) (hs2 : starEach [b] X.env = [(false, eval b X.env)] := by rfl) :
    AI X tg (.Call (.Name "range" p) [a, b] [] pos) (wiR2 u) :=
  ⟨fun F => PIimp (pi_range2 hg hm (ha.pa F) hs hs2) fun σ H R ⟨S, ρ, P, R0, hw, q⟩ => ⟨S, ρ, _, R0, hw, fun ds ρ' S' H' vs hP e1 R1 r1 => by
    split at hP
    · cases r1 with
      | cons h t =>
        cases t with
        | cons h2 t =>
          cases t
          cases h
          cases h2
          exact ⟨_, _, rfl, ⟨hP.1.1.1, hP.1.1.2, hP.1.2.1, hP.1.2.2⟩, q _ _ _ _ _ hP.2 e1 R1 itr_ok⟩
    · exact hP.elim⟩⟩
theorem ai_range3 {tg : Expr} {p : Pos} {u : WA} (hg : Gl X "range") (hm : X.mg "range" = none) (ha : AA X [a, b, c] u)
    (hs : starEach [a, b, c] X.env = (false, eval a X.env) :: starEach [b, c] X.env := by rfl) (hpl : (backTo pos (starEach [b, c] X.env)).any (·.1) = false := by rfl) :
    AI X tg (.Call (.Name "range" p) [a, b, c] [] pos) (wiR3 u) :=
  ⟨fun F => PIimp (pi_range3 hg hm (ha.pa F) hs hpl) fun σ H R ⟨S, ρ, P, R0, hw, q⟩ => ⟨S, ρ, _, R0, hw, fun ds ρ' S' H' vs hP e1 R1 r1 => by
    split at hP
    · cases r1 with
      | cons h t =>
        cases t with
        | cons h2 t =>
          cases t with
          | cons h3 t =>
            cases t
            cases h
            cases h2
            cases h3
            obtain ⟨⟨rfl, s1, s2⟩, hP⟩ := hP
            exact ⟨_, _, _, _, rfl, RgC.neg s1.1 s1.2 s2.1 s2.2, q _ _ _ _ _ hP e1 R1 itc_ok⟩
    · exact hP.elim⟩⟩
end
end AL

set_option Elab.async false
set_option linter.all false
set_option maxRecDepth 100000
set_option maxHeartbeats 4000000
namespace AL
open PySem PySem.Spec PyProof.Rows L2
/-! ### defs, called where no repr is under way -/
structure FnG (P : Program) (w : World) (K : PySem.W.Frag) (mg : Str → Option Value) (base : Heap) (k : Nat) (f : Addr) (fd : FuncData) (ps : List Str) (sp : Sp) : Prop where
  len : ∀ vs H Q E, sp vs H Q E → vs.length = ps.length
  go : ∀ (A : Around) (outer : List Env) (s : Shared) (H : Hp) (args : Args) (us : List Value) (vs : List V) (Q : VK) (E : XK), Room k A → A.guards = some [] →
    Env0 P w K mg base A outer s H → BindsTo s fd args (ps.zip us) → Vals vs us → sp vs H Q E → codeAny (model P w) A (.call (.ref f) args) (CR CX0 outer P w H s Q E) s
/-- what a body's context knows beside -/
structure Gd (X : Cx) (k : Nat) : Prop where
  room : Room k X.A
  gd : X.A.guards = some []
theorem fnG_of {P : Program} {w : World} {K : PySem.W.Frag} {mg : Str → Option Value} {base : Heap} {x qual : Str} {st : Stmt} {f : Addr} {fd : FuncData} {N ps : List Str} {k : Nat} {sp : Sp} (D : Fun K x qual st f fd) (Sc : FnScope N ps (defScope st))
    (len : ∀ vs H Q E, sp vs H Q E → vs.length = ps.length)
    (body : ∀ (X : Cx) (cdv : Value) (A : Around) (outer : List Env) (s : Shared) (H : Hp) (E : XK), X = (cxOf CX0 P w K mg base N qual (defScope st) f cdv A outer s H E).nox → Gd X k → ∀ (vs : List V) (Q : VK), sp vs H Q E →
      ∃ t, PSs X (defBody st) t ∧ t { nx := fun _ H' => Q .non H', rt := Q } (L2.start N vs) H) : FnG P w K mg base (k + 1) f fd ps sp := by
  obtain ⟨oc, od, kV, doc, pm, an, cdv, ct, osl, rfl, lk, hcd⟩ := D.ex
  refine ⟨len, fun A outer s H args us vs Q E room gd env bnd vals prom => ?_⟩
  have hlen := len _ _ _ _ prom
  have kin : K.In s.heap := env.mod.kin.keeps (fun b o e => (env.bs b o e).1)
  have nolim : s.heap.NoLimit := env.mod.nolimit.keeps (fun b o e => (env.bs b o e).1)
  have kinds : ∀ y ∈ ps.zip us, (defScope st).names.lookup y.1 = some .local ∨ ((defScope st).names.lookup y.1 = some .cell ∧ ((cellsFrom (s.heap.objs.size + 1) (defScope st).names []).lookup y.1).isSome = true) := by
    rintro ⟨n, v⟩ hy
    cases Sc.par n (List.of_mem_zip hy).1 with
    | inl q => exact .inl q
    | inr q => exact .inr ⟨q, PySem.W.cellsFrom_some _ _ _ (.inl q)⟩
  refine codeAny_call_function room.depth (kin _ _ lk) rfl Sc.co Sc.gen rfl (PySem.W.codeRec_of kin hcd) (bnd _ _ _ _ ?_)
  refine wpAny_newFunctionEnv_cells Sc.kind kinds fun env1 he s1 inc => ?_
  subst he
  refine ⟨nolim.keeps inc.toInCall.keep, codeAny_func ?_⟩
  obtain ⟨t, ht, hq⟩ := body _ cdv A outer s H E rfl ⟨room.deeper _, gd⟩ vs Q prom
  have I := inv_start (CX := CX0) (cd := cdv) (f := f) (qual := qual) (E := E) Sc room.hd env hlen vals inc
  have ht' := ht.nox
  refine wpAny_mono (ht'.run [] s1 (L2.start N vs) H _ I hq) (fun fl s' hs => ?_) fun e s' hs => hs
  have fin : ∀ {σ' : L2.St} {H' : Hp} {v : V} {u : Value}, L2.Inv (cxOf CX0 P w K mg base N qual (defScope st) f cdv A outer s H E) [] σ' H' s' → L2.RelV v u → Q v H' → CE outer P w H s Q u s' := by
    intro σ' H' v u J rv q
    exact ⟨v, H', J.os, J.bare, J.base, J.hok, rv, q⟩
  cases fl with
  | next =>
    obtain ⟨σ', H', J, q⟩ := hs
    exact fin (v := V.non) (u := Value.none) J rfl q
  | ret u =>
    obtain ⟨v, σ', H', J, rv, q⟩ := hs
    exact fin J rv q
  | brk =>
    obtain ⟨_, _, _, q⟩ := hs
    exact q.elim
  | cont =>
    obtain ⟨_, _, _, q⟩ := hs
    exact q.elim
theorem FnG.mono {P : Program} {w : World} {K : PySem.W.Frag} {mg : Str → Option Value} {base : Heap} {j k : Nat} {f : Addr} {fd : FuncData} {ps : List Str} {sp : Sp} (G : FnG P w K mg base j f fd ps sp) (h : j ≤ k) : FnG P w K mg base k f fd ps sp :=
  ⟨G.len, fun A outer s H args us vs Q E hr => G.go A outer s H args us vs Q E (hr.mono h)⟩
section
variable {X : Cx} {k : Nat} {f : Addr} {fd : FuncData} {ps : List Str} {sp : Sp} {x : Str} {p pos : Pos} {e : Expr} {es : List Expr} {t : TA}
theorem run_fnG {pins : List (Addr × Obj)} {σ : L2.St} {H : Hp} {s : Shared} {Q : VK} {us : List Value} {vs : List V} (G : FnG X.prog X.w X.K X.mg X.base k f fd ps sp) (gd : Gd X k) (hb : Binds X.K fd ps [])
    (I : L2.Inv X pins σ H s) (r : Vals vs us) (h : sp vs H Q E0) : wpAny (model X.prog X.w) X.A (call (.ref f) us) (EP X pins σ Q) X.xe s := by
  have hl : (us ++ []).length = ps.length := by rw [List.append_nil, ← r.length]; exact G.len _ _ _ _ h
  have hb1 := hb s us I.kIn hl
  rw [List.append_nil] at hb1
  refine wpAny_call (codeAny_mono (G.go X.A X.stack s H ⟨us, []⟩ us vs Q E0 gd.room gd.gd I.env0 hb1 r h) fun res s' hq => ?_)
  cases res with
  | error e => exact (show False from hq).elim
  | ok fl =>
    cases fl with
    | ret u => exact I.after hq
    | next => exact (show False from hq).elim
    | brk => exact (show False from hq).elim
    | cont => exact (show False from hq).elim
/-- f(e, ..) -/
theorem pe_callG (G : FnG X.prog X.w X.K X.mg X.base k f fd ps sp) (gd : Gd X k) (hg : Gl X x) (hm : X.mg x = some (.ref f)) (hk : PySem.W.keepIn X.K (.ref f) = true) (hb : Binds X.K fd ps [])
    (ha : PA X (e :: es) t) (hdb : (x == ("__debug__" : Str)) = false := by decide) (he : starEach (e :: es) X.env = (false, eval e X.env) :: starEach es X.env := by rfl) (hpl : (backTo pos (starEach es X.env)).any (·.1) = false := by rfl) :
    PE X (.Call (.Name x p) (e :: es) [] pos) (fun σ H Q => t σ H fun vs H1 => sp vs H1 Q E0) := by
  refine ⟨fun pins s σ H Q I h => wpAny_Call_Name_kw (ld_glob I hg hm ?_ hdb)⟩
  refine PySem.W.callWith_K (h₀ := X.base) I.ok.mod.kin hk (thn (ha.run pos pins s σ H _ I h) ?_) he hpl
  rintro us s1 ⟨vs, H1, I1, r, q⟩
  exact ⟨I1.kIn, run_fnG G gd hb I1 r q⟩
end
/-! ### promises by data -/
/-- what a def is worth on data: f asks of the arguments, and goes on with the answer -/
abbrev Spc := List PyData → (PyData → Prop) → Prop
def Hap (F S H : Hp) : Prop := Same S H ∧ Same F H ∧ Apart F S
def prom (n : Nat) (f : Spc) : Sp := fun vs H Q _ => vs.length = n ∧ ∃ F S ds P, Hap F S H ∧ RpAll S vs ds ∧ f ds P ∧ ∀ d S' H' v, P d → Le S S' → Hap F S' H' → Rp S' v d → Q v H'
/-- the same of a def whose first argument is the source -/
def promS (n : Nat) (f : Spc) : Sp := fun vs H Q _ => ∃ a l us, vs = .ref a :: us ∧ us.length = n ∧ ∃ F S ds P, Hap F S H ∧ S a = none ∧ F a = none ∧ S l = none ∧ F l = none ∧ a ≠ l ∧ SrcAt H a l ∧ RpAll S us ds ∧ f ds P ∧
  ∀ d S' H' v, P d → Le S S' → Hap F S' H' → S' a = none → S' l = none → SrcAt H' a l → Rp S' v d → Q v H'
section
variable {F S H : Hp} {σ : L2.St} {ρ : AEnv}
theorem src_ne {H : Hp} {a l : Addr} (h : SrcAt H a l) : H a ≠ none ∧ H l ≠ none := by
  obtain ⟨_, _, _, _, h1, h2, _⟩ := h
  exact ⟨by rw [h1]; exact (fun z => by cases z), by rw [h2]; exact (fun z => by cases z)⟩
/-- what is owned is a list or a dict -/
theorem own_kind {S H : Hp} {a : Addr} {fp : List Addr} : ∀ {o : MO}, OwnAt S H a o fp → ∀ b ∈ fp, ∀ xs, H b ≠ some (.tup xs)
  | .lst _, ⟨hf, vs, h, _⟩, b, hb, xs => by rw [hf] at hb; obtain rfl : b = a := by simpa using hb
                                            rw [h]; exact (fun z => by cases z)
  | .dic _, ⟨hf, o, h, r⟩, b, hb, xs => by rw [hf] at hb; obtain rfl : b = a := by simpa using hb
                                           rw [h]; cases r <;> exact (fun z => by cases z)
  | .lsts _, ⟨ls, hf, h, r⟩, b, hb, xs => by
    rw [hf] at hb
    rcases List.mem_cons.mp hb with rfl | hb
    · rw [h]; exact (fun z => by cases z)
    · have : ∀ {ls : List Addr} {xss : List (List PyData)}, Paired (fun l xs => ∃ vs, H l = some (.lst vs) ∧ RpAll S vs xs) ls xss → ∀ b ∈ ls, ∀ xs, H b ≠ some (.tup xs) := by
        intro ls xss r
        induction r with
        | nil => intro b hb; cases hb
        | cons h t ih =>
          intro b hb xs
          rcases List.mem_cons.mp hb with rfl | hb
          · obtain ⟨vs, h, _⟩ := h; rw [h]; exact (fun z => by cases z)
          · exact ih b hb xs
      exact this r b hb xs
  | .src _ l, ⟨_, hf, h⟩, b, hb, xs => by
    obtain ⟨_, _, _, _, h1, h2, _⟩ := h
    rw [hf] at hb
    rcases List.mem_cons.mp hb with rfl | hb
    · rw [h1]; exact (fun z => by cases z)
    · obtain rfl : b = l := by simpa using hb
      rw [h2]; exact (fun z => by cases z)
theorem slot_kind {S H : Hp} {v : Option V} {fp : List Addr} : ∀ {av : AV}, SlotOk S H v av fp → ∀ b ∈ fp, ∀ xs, H b ≠ some (.tup xs)
  | .unk, h, b, hb, _ => by rw [show fp = [] from h] at hb; cases hb
  | .dat _, ⟨h, _⟩, b, hb, _ => by rw [h] at hb; cases hb
  | .own _, ⟨a, _, r⟩, b, hb, xs => own_kind r b hb xs
theorem own_there {S H : Hp} {a : Addr} {fp : List Addr} : ∀ {o : MO}, OwnAt S H a o fp → ∀ b ∈ fp, ∃ u, H b = some u
  | .lst _, ⟨hf, vs, h, _⟩, b, hb => by rw [hf] at hb; obtain rfl : b = a := by simpa using hb
                                        exact ⟨_, h⟩
  | .dic _, ⟨hf, o, h, _⟩, b, hb => by rw [hf] at hb; obtain rfl : b = a := by simpa using hb
                                       exact ⟨_, h⟩
  | .lsts _, ⟨ls, hf, h, r⟩, b, hb => by
    rw [hf] at hb
    rcases List.mem_cons.mp hb with rfl | hb
    · exact ⟨_, h⟩
    · have : ∀ {ls : List Addr} {xss : List (List PyData)}, Paired (fun l xs => ∃ vs, H l = some (.lst vs) ∧ RpAll S vs xs) ls xss → ∀ b ∈ ls, ∃ u, H b = some u := by
        intro ls xss r
        induction r with
        | nil => intro b hb; cases hb
        | cons h t ih =>
          intro b hb
          rcases List.mem_cons.mp hb with rfl | hb
          · obtain ⟨vs, h, _⟩ := h; exact ⟨_, h⟩
          · exact ih b hb
      exact this r b hb
  | .src _ l, ⟨_, hf, h⟩, b, hb => by
    obtain ⟨_, _, _, _, h1, h2, _⟩ := h
    rw [hf] at hb
    rcases List.mem_cons.mp hb with rfl | hb
    · exact ⟨_, h1⟩
    · obtain rfl : b = l := by simpa using hb
      exact ⟨_, h2⟩
open Classical in
/-- the frame for a callee: the caller's frame and what the caller's names own, but for skip -/
noncomputable def frameOf (F H : Hp) (fp : Nat → List Addr) (skip : List Addr) : Hp := fun a => if a ∈ skip then none else if ∃ i, a ∈ fp i then H a else F a
theorem frame_hap {fp : Nat → List Addr} (R : RelW F S σ H ρ fp) (skip : List Addr) (hs : ∀ a ∈ skip, F a = none) (off : ∀ i, ρ.length ≤ i → fp i = []) : Hap (frameOf F H fp skip) S H := by
  refine ⟨R.sub, fun a u h => ?_, fun a u h => ?_, fun a xs h => ?_⟩
  · unfold frameOf at h
    split at h
    · cases h
    · split at h
      · exact h
      · exact R.frm _ _ h
  · unfold frameOf at h
    split at h
    · cases h
    · split at h
      · rename_i hx; obtain ⟨i, hi⟩ := hx; exact (R.out i a hi).1
      · exact R.apt.1 _ _ h
  · unfold frameOf at h
    split at h
    · cases h
    · split at h
      · rename_i hx
        obtain ⟨i, hi⟩ := hx
        by_cases hl : i < ρ.length
        · exact slot_kind (R.slot i _ (List.getElem?_eq_getElem hl)) a hi xs h
        · rw [off i (by omega)] at hi; cases hi
      · exact R.apt.2 _ _ h
theorem frame_in {fp : Nat → List Addr} {skip : List Addr} {i : Nat} {a : Addr} (hi : a ∈ fp i) (hn : a ∉ skip) : frameOf F H fp skip a = H a := by
  unfold frameOf
  rw [if_neg hn, if_pos ⟨i, hi⟩]
theorem frame_F {fp : Nat → List Addr} (R : RelW F S σ H ρ fp) {skip : List Addr} {a : Addr} {u : HO} (h : F a = some u) (hs : ∀ a ∈ skip, F a = none) : frameOf F H fp skip a = some u := by
  unfold frameOf
  rw [if_neg (fun z => by rw [hs a z] at h; cases h)]
  rw [if_neg (fun ⟨i, hi⟩ => by rw [(R.out i a hi).2.1] at h; cases h)]
  exact h
/-- behind a call -/
theorem rel_after {fp : Nat → List Addr} {S' H' : Hp} (R : RelW F S σ H ρ fp) (e : Le S S') (h : Hap (frameOf F H fp []) S' H') : RelW F S' σ H' ρ fp := by
  refine R.step e h.1 (fun a u q => h.2.1 a u (frame_F R q (fun _ z => by cases z))) (fun i b hb => ?_) ⟨fun a u q => h.2.2.1 a u (frame_F R q (fun _ z => by cases z)), R.apt.2⟩
  have hin := frame_in (F := F) (H := H) (skip := []) hb (by simp)
  cases q : H b with
  | none => exact absurd q (R.out i b hb).2.2
  | some u =>
    rw [q] at hin
    exact ⟨h.2.1 b u hin, h.2.2.1 b u hin⟩
end
section
variable {X : Cx} {k n : Nat} {f : Addr} {fd : FuncData} {ps : List Str} {sp : Spc} {x : Str} {p pos : Pos} {e : Expr} {es : List Expr} {u : WA}
def wCall (n : Nat) (sp : Spc) (u : WA) : WE := fun P ρ => u (fun ds ρ' => ds.length = n ∧ sp ds (fun d => P d ρ')) ρ
theorem ae_call (G : FnG X.prog X.w X.K X.mg X.base k f fd ps (prom n sp)) (gd : Gd X k) (hg : Gl X x) (hm : X.mg x = some (.ref f)) (hk : PySem.W.keepIn X.K (.ref f) = true) (hb : Binds X.K fd ps [])
    (ha : AA X (e :: es) u) (hdb : (x == ("__debug__" : Str)) = false := by decide) (he : starEach (e :: es) X.env = (false, eval e X.env) :: starEach es X.env := by rfl) (hpl : (backTo pos (starEach es X.env)).any (·.1) = false := by rfl) :
    AE X (.Call (.Name x p) (e :: es) [] pos) (wCall n sp u) :=
  ⟨fun F => PEimp (pe_callG G gd hg hm hk hb (ha.pa F) hdb he hpl) fun σ H Q ⟨S, ρ, P, R, hw, q⟩ => ⟨S, ρ, _, R, hw, fun ds ρ' S' H' vs hP e1 R1 r1 => by
    obtain ⟨fp0, R1⟩ := R1
    have R1 := R1.trunc
    generalize hfp : (fun i => if i < ρ'.length then fp0 i else []) = fp at R1
    have off : ∀ i, ρ'.length ≤ i → fp i = [] := fun i hi => by rw [← hfp]; exact if_neg (by omega)
    refine ⟨by rw [rps_length r1]; exact hP.1, frameOf F H' fp [], S', ds, _, frame_hap R1 [] (fun _ z => by cases z) off, r1, hP.2, fun d S2 H2 v h2 e2 hap r2 => ?_⟩
    exact q _ _ _ _ _ h2 (e1.trans e2) ⟨fp, rel_after R1 e2 hap⟩ r2⟩⟩
/-- f(source, e, ..), source the name at slot i -/
def wCallS (i n : Nat) (sp : Spc) (u : WA) : WE := fun P ρ => ∃ a l, ρ[i]? = some (.own (.src a l)) ∧ u (fun ds ρ' => ρ'[i]? = some (.own (.src a l)) ∧ ds.length = n ∧ sp ds (fun d => P d ρ')) ρ
theorem ae_callS {i : Nat} {y : Str} {py : Pos} (G : FnG X.prog X.w X.K X.mg X.base k f fd ps (promS n sp)) (gd : Gd X k) (hg : Gl X x) (hm : X.mg x = some (.ref f)) (hk : PySem.W.keepIn X.K (.ref f) = true) (hb : Binds X.K fd ps [])
    (hN : X.N[i]? = some y) (hv : Vis X.env.scope y) (ha : AA X es u) (hyd : (y == ("__debug__" : Str)) = false := by decide) (hyc : (y == ("__classdict__" : Str)) = false := by decide)
    (hdb : (x == ("__debug__" : Str)) = false := by decide) (he : starEach (.Name y py :: es) X.env = (false, eval (.Name y py) X.env) :: starEach es X.env := by rfl) (hpl : (backTo pos (starEach es X.env)).any (·.1) = false := by rfl) :
    AE X (.Call (.Name x p) (.Name y py :: es) [] pos) (wCallS i n sp u) :=
  ⟨fun F => PEimp (pe_callG G gd hg hm hk hb (pa_cons (pe_var hN hv hyd hyc) (ha.pa F) he) hdb he hpl) fun σ H Q ⟨S, ρ, P, R, ⟨a, l, h0, hw⟩, q⟩ => by
    have Rc := R
    obtain ⟨fp0, R0⟩ := Rc
    obtain ⟨a0, hσ, e0, hf0, hs0⟩ := R0.own h0
    rw [e0] at hσ
    refine ⟨_, hσ, S, ρ, _, R, hw, fun ds ρ' S' H' vs hP e1 R1 r1 => ?_⟩
    obtain ⟨fp0, R1⟩ := R1
    have R1 := R1.trunc
    generalize hfp : (fun i => if i < ρ'.length then fp0 i else []) = fp at R1
    have off : ∀ i, ρ'.length ≤ i → fp i = [] := fun i hi => by rw [← hfp]; exact if_neg (by omega)
    obtain ⟨hi, hn, hP⟩ := hP
    obtain ⟨a', hσ', ea, hf, hs⟩ := R1.own hi
    rw [ea] at hf hs
    have oa := R1.out i a (by rw [hf]; exact List.mem_cons_self)
    have ol := R1.out i l (by rw [hf]; exact List.mem_cons_of_mem _ List.mem_cons_self)
    have nd := R1.nd i
    rw [hf] at nd
    have nal : a ≠ l := by
      intro z
      subst z
      simp at nd
    have hskF : ∀ b ∈ [a, l], F b = none := by
      intro b hb
      rcases List.mem_cons.mp hb with rfl | hb
      · exact oa.2.1
      · obtain rfl : b = l := by simpa using hb
        exact ol.2.1
    have fa : ∀ b ∈ [a, l], frameOf F H' fp [a, l] b = none := fun b hb => by
      unfold frameOf
      rw [if_pos hb]
    refine ⟨a, l, vs, rfl, by rw [rps_length r1]; exact hn, frameOf F H' fp [a, l], S', ds, _, frame_hap R1 [a, l] hskF off, oa.1, fa a List.mem_cons_self, ol.1, fa l (List.mem_cons_of_mem _ List.mem_cons_self), nal, hs, r1, hP, fun d S2 H2 v h2 e2 hap na nl hs2 r2 => ?_⟩
    refine q _ _ _ _ _ h2 (e1.trans e2) ⟨fp, ?_⟩ r2
    have oth : ∀ j b, b ∈ fp j → j ≠ i → b ∉ [a, l] := fun j b hb hj z => hj (R1.dis j i b hb (by rw [hf]; exact z))
    have keep : ∀ j b, b ∈ fp j → j ≠ i → H2 b = H' b ∧ S2 b = none := fun j b hb hj => by
      have hin := frame_in (F := F) (H := H') (skip := [a, l]) hb (oth j b hb hj)
      cases qq : H' b with
      | none => exact absurd qq (R1.out j b hb).2.2
      | some w =>
        rw [qq] at hin
        exact ⟨hap.2.1 b w hin, hap.2.2.1 b w hin⟩
    exact {
      len := R1.len
      slot := fun j av hj => by
        by_cases e : j = i
        · subst e
          rw [hi] at hj
          cases hj
          refine ⟨_, ?_, rfl, hf, hs2⟩
          rw [hσ]; rfl
        · exact slot_keep e2 (R1.slot j av hj) fun b hb => (keep j b hb e).1
      nd := R1.nd
      dis := R1.dis
      out := fun j b hb => by
        by_cases e : j = i
        · subst e
          rw [hf] at hb
          have hne := src_ne hs2
          rcases List.mem_cons.mp hb with rfl | hb
          · exact ⟨na, oa.2.1, hne.1⟩
          · obtain rfl : b = l := by simpa using hb
            exact ⟨nl, ol.2.1, hne.2⟩
        · exact ⟨(keep j b hb e).2, (R1.out j b hb).2.1, by rw [(keep j b hb e).1]; exact (R1.out j b hb).2.2⟩
      sub := hap.1
      frm := fun b w hb => hap.2.1 b w (frame_F R1 hb hskF)
      apt := ⟨fun b w hb => hap.2.2.1 b w (frame_F R1 hb hskF), R1.apt.2⟩ }⟩
end
/-! ### a def by its body -/
def startA (N : List Str) (avs : List AV) : AEnv := avs ++ List.replicate (N.length - avs.length) .unk
theorem rel_start {F S H : Hp} {N : List Str} {vs : List V} {ds : List PyData} (h : Hap F S H) (r : RpAll S vs ds) (hl : ds.length ≤ N.length) : Rel F S (L2.start N vs) H (startA N (ds.map .dat)) := by
  refine ⟨fun _ => [], ?_⟩
  have e := rps_length r
  exact {
    len := by unfold L2.start startA; simp [e]
    slot := fun i av hi => by
      unfold startA at hi
      unfold L2.start
      by_cases hlt : i < ds.length
      · rw [List.getElem?_append_left (by simpa using hlt), List.getElem?_map, List.getElem?_eq_getElem hlt] at hi
        cases hi
        obtain ⟨v, hv, rv⟩ := rps_getd r (List.getElem?_eq_getElem hlt)
        rw [List.getElem?_append_left (by simpa [e] using hlt), List.getElem?_map, hv]
        exact ⟨rfl, v, rfl, rv⟩
      · rw [List.getElem?_append_right (by simpa using hlt), List.getElem?_replicate] at hi
        split at hi
        · cases hi; exact rfl
        · cases hi
    nd := fun _ => List.nodup_nil
    dis := fun _ _ _ z => by cases z
    out := fun _ _ z => by cases z
    sub := h.1
    frm := h.2.1
    apt := h.2.2 }
theorem rel_startS {F S H : Hp} {N : List Str} {us : List V} {ds : List PyData} {a l : Addr} (h : Hap F S H) (r : RpAll S us ds) (hl : ds.length + 1 ≤ N.length) (ha : S a = none ∧ F a = none) (hl2 : S l = none ∧ F l = none) (ne : a ≠ l) (hs : SrcAt H a l) :
    Rel F S (L2.start N (.ref a :: us)) H (startA N (.own (.src a l) :: ds.map .dat)) := by
  have e := rps_length r
  refine ⟨fun i => if i = 0 then [a, l] else [], ?_⟩
  have hne := src_ne hs
  exact {
    len := by unfold L2.start startA; simp [e]
    slot := fun i av hi => by
      unfold startA at hi
      unfold L2.start
      cases i with
      | zero =>
        simp at hi
        subst hi
        exact ⟨a, rfl, rfl, rfl, hs⟩
      | succ i =>
        rw [if_neg (by omega)]
        by_cases hlt : i < ds.length
        · rw [List.getElem?_append_left (by simpa using hlt), List.getElem?_cons_succ, List.getElem?_map, List.getElem?_eq_getElem hlt] at hi
          cases hi
          obtain ⟨v, hv, rv⟩ := rps_getd r (List.getElem?_eq_getElem hlt)
          rw [List.getElem?_append_left (by simpa [e] using hlt), List.getElem?_map, List.getElem?_cons_succ, hv]
          exact ⟨rfl, v, rfl, rv⟩
        · rw [List.getElem?_append_right (by simpa using hlt), List.getElem?_replicate] at hi
          split at hi
          · cases hi; exact rfl
          · cases hi
    nd := fun i => by
      by_cases e : i = 0
      · rw [if_pos e]; simp [ne]
      · rw [if_neg e]; exact List.nodup_nil
    dis := fun i j b hi hj => by
      by_cases e : i = 0
      · by_cases e2 : j = 0
        · rw [e, e2]
        · rw [if_neg e2] at hj; cases hj
      · rw [if_neg e] at hi; cases hi
    out := fun i b hb => by
      by_cases e : i = 0
      · rw [if_pos e] at hb
        rcases List.mem_cons.mp hb with rfl | hb
        · exact ⟨ha.1, ha.2, hne.1⟩
        · obtain rfl : b = l := by simpa using hb
          exact ⟨hl2.1, hl2.2, hne.2⟩
      · rw [if_neg e] at hb; cases hb
    sub := h.1
    frm := h.2.1
    apt := h.2.2 }
section
variable {P : Program} {w : World} {K : PySem.W.Frag} {mg : Str → Option Value} {base : Heap} {x qual : Str} {st : Stmt} {f : Addr} {fd : FuncData} {N ps : List Str} {k : Nat} {sp : Spc}
theorem rel_own {F S H : Hp} {σ : L2.St} {ρ : AEnv} (R : Rel F S σ H ρ) : Hap F S H := ⟨R.sub, R.frm, R.apt⟩
/-- a def on data: its body's wp W answers as sp says -/
theorem fn_data (D : Fun K x qual st f fd) (Sc : FnScope N ps (defScope st)) (hN : ps.length ≤ N.length) (W : WS)
    (body : ∀ (X : Cx) (cdv : Value) (A : Around) (outer : List Env) (s : Shared) (H : Hp) (E : XK), X = (cxOf CX0 P w K mg base N qual (defScope st) f cdv A outer s H E).nox → Gd X k → ASs X (defBody st) W)
    (pure : ∀ ds Q, ds.length = ps.length → sp ds Q → W { nx := fun _ => Q .none, rt := fun d _ => Q d } (startA N (ds.map .dat))) : FnG P w K mg base (k + 1) f fd ps (prom ps.length sp) := by
  refine fnG_of D Sc (fun vs H Q E h => h.1) fun X cdv A outer s H E hX gd vs Q ⟨hl, F, S, ds, P', hap, r, hs, q⟩ => ?_
  have e := rps_length r
  refine ⟨_, (body X cdv A outer s H E hX gd).pss F, S, _, _, rel_start hap r (by omega), pure ds P' (by omega) hs, fun ρ' S' σ' H' h e1 R1 => q _ _ _ _ h e1 (rel_own R1) .non, fun d ρ' S' σ' H' v h e1 R1 r1 => q _ _ _ _ h e1 (rel_own R1) r1, fun _ _ _ _ h => h.elim, fun _ _ _ _ h => h.elim⟩
/-- a def whose first parameter is the source, at slot 0 all along -/
theorem fn_src (D : Fun K x qual st f fd) (Sc : FnScope N ps (defScope st)) {n : Nat} (hps : ps.length = n + 1) (hN : ps.length ≤ N.length) (W : WS)
    (body : ∀ (X : Cx) (cdv : Value) (A : Around) (outer : List Env) (s : Shared) (H : Hp) (E : XK), X = (cxOf CX0 P w K mg base N qual (defScope st) f cdv A outer s H E).nox → Gd X k → ASs X (defBody st) W)
    (pure : ∀ (a l : Addr) ds Q, ds.length = n → sp ds Q → W { nx := fun ρ => ρ[0]? = some (.own (.src a l)) ∧ Q .none, rt := fun d ρ => ρ[0]? = some (.own (.src a l)) ∧ Q d } (startA N (.own (.src a l) :: ds.map .dat))) :
    FnG P w K mg base (k + 1) f fd ps (promS n sp) := by
  refine fnG_of D Sc (fun vs H Q E ⟨a, l, us, e, h, _⟩ => by rw [e, hps, List.length_cons, h]) fun X cdv A outer s H E hX gd vs Q ⟨a, l, us, ev, hl, F, S, ds, P', hap, h1, h2, h3, h4, ne, hs, r, hsp, q⟩ => ?_
  subst ev
  have e := rps_length r
  have fin : ∀ d ρ' S' σ' H' v, (ρ'[0]? = some (.own (.src a l)) ∧ P' d) → Le S S' → Rel F S' σ' H' ρ' → Rp S' v d → Q v H' := by
    intro d ρ' S' σ' H' v hd e1 R1 r1
    have hap' := rel_own R1
    obtain ⟨fp, R1⟩ := R1
    obtain ⟨a', _, ea, hf, hsrc⟩ := R1.own hd.1
    rw [ea] at hf hsrc
    exact q _ _ _ _ hd.2 e1 hap' (R1.out 0 _ (by rw [hf]; exact List.mem_cons_self)).1 (R1.out 0 _ (by rw [hf]; exact List.mem_cons_of_mem _ List.mem_cons_self)).1 hsrc r1
  refine ⟨_, (body X cdv A outer s H E hX gd).pss F, S, _, _, rel_startS hap r (by omega) ⟨h1, h2⟩ ⟨h3, h4⟩ ne hs, pure a l ds P' (by omega) hsp, fun ρ' S' σ' H' h e1 R1 => fin _ _ _ _ _ _ h e1 R1 .non, fun d ρ' S' σ' H' v h e1 R1 r1 => fin _ _ _ _ _ _ h e1 R1 r1, fun _ _ _ _ h => h.elim, fun _ _ _ _ h => h.elim⟩
end
end AL

set_option Elab.async false
set_option linter.all false
set_option maxRecDepth 100000
set_option maxHeartbeats 4000000
namespace AL
open PySem PySem.Spec PyProof.Rows L2
/-! ### list comprehensions -/
theorem wipe_get {σ : L2.St} {i : Nat} : ∀ {vs : List Nat}, (wipe σ vs)[i]? = if i ∈ vs then σ[i]?.map (fun _ => none) else σ[i]?
  | [] => by simp [wipe]
  | v :: vs => by
    unfold wipe
    by_cases e : v = i
    · subst e
      rw [List.getElem?_set_self', wipe_get]
      by_cases hv : v ∈ vs <;> simp [hv] <;> cases σ[v]? <;> rfl
    · rw [List.getElem?_set_ne e, wipe_get]
      have : (i ∈ v :: vs) ↔ i ∈ vs := by simp [Ne.symm e]
      simp [this]
theorem wipe_set {σ : L2.St} {j : Nat} {x : Option V} {vs : List Nat} (h : j ∈ vs) : wipe (σ.set j x) vs = wipe σ vs := by
  apply List.ext_getElem?
  intro i
  rw [wipe_get, wipe_get]
  by_cases hi : i ∈ vs
  · rw [if_pos hi, if_pos hi]
    by_cases e : j = i
    · subst e
      rw [List.getElem?_set_self']
      cases σ[j]? <;> rfl
    · rw [List.getElem?_set_ne e]
  · rw [if_neg hi, if_neg hi, List.getElem?_set_ne (fun e => hi (by rw [← e]; exact h))]
theorem wipe_wipe {σ : L2.St} {vs : List Nat} : wipe (wipe σ vs) vs = wipe σ vs := by
  apply List.ext_getElem?
  intro i
  rw [wipe_get, wipe_get]
  by_cases hi : i ∈ vs
  · rw [if_pos hi, if_pos hi]
    cases σ[i]? <;> rfl
  · rw [if_neg hi, if_neg hi]
def wipeA (ρ : AEnv) : List Nat → AEnv
  | [] => ρ
  | v :: vs => (wipeA ρ vs).set v .unk
def keepD : Option AV → AV
  | some (.dat d) => .dat d
  | _ => .unk
/-- behind the block: its own names as they were ahead -/
def backA (ρ0 ρ : AEnv) : List Nat → AEnv
  | [] => ρ
  | v :: vs => (backA ρ0 ρ vs).set v (keepD ρ0[v]?)
theorem wipeA_len {ρ : AEnv} : ∀ {vs : List Nat}, (wipeA ρ vs).length = ρ.length
  | [] => rfl
  | v :: vs => by unfold wipeA; rw [List.length_set, wipeA_len]
theorem Rel.wipe {F S H : Hp} {σ : L2.St} {ρ : AEnv} (R : Rel F S σ H ρ) : ∀ (vs : List Nat), Rel F S (wipe σ vs) H (wipeA ρ vs)
  | [] => R
  | v :: vs => (R.wipe vs).putUnk v none
theorem Rel.back {F0 F S0 S H0 H : Hp} {σ : L2.St} {ρ0 : AEnv} (R0 : Rel F0 S0 σ H0 ρ0) (e : Le S0 S) : ∀ {vs : List Nat}, vs.Nodup → ∀ {ρ : AEnv}, Rel F S (L2.wipe σ vs) H ρ → Rel F S σ H (backA ρ0 ρ vs)
  | [], _, _, R => R
  | v :: vs, nd, ρ, R => by
    obtain ⟨hv, nd⟩ := List.nodup_cons.mp nd
    -- the slot v alone put back
    have hx : (L2.wipe σ vs)[v]? = σ[v]? := by rw [wipe_get, if_neg hv]
    have e1 : (L2.wipe σ (v :: vs)).set v (σ[v]?.getD none) = L2.wipe σ vs := by
      show ((L2.wipe σ vs).set v none).set v (σ[v]?.getD none) = L2.wipe σ vs
      rw [List.set_set, ← hx]
      exact set_self_getD _ _
    have R1 : Rel F S (L2.wipe σ vs) H (ρ.set v (keepD ρ0[v]?)) := by
      rw [← e1]
      cases q : ρ0[v]? with
      | none => exact R.putUnk v _
      | some av =>
        cases av with
        | unk => exact R.putUnk v _
        | own o => exact R.putUnk v _
        | dat d =>
          obtain ⟨u, hu, r⟩ := R0.dat q
          rw [hu]
          exact R.putDat v (rp_mono e r)
    have R2 := Rel.back R0 e nd R1
    have e2 : ∀ (ws : List Nat) (ρ : AEnv) (x : AV), v ∉ ws → backA ρ0 (ρ.set v x) ws = (backA ρ0 ρ ws).set v x := by
      intro ws
      induction ws with
      | nil => intro ρ x _; rfl
      | cons u ws ih =>
        intro ρ x hn
        have h1 : v ≠ u := fun e => hn (e ▸ List.mem_cons_self)
        have h2 : v ∉ ws := fun e => hn (List.mem_cons_of_mem _ e)
        show (backA ρ0 (ρ.set v x) ws).set u _ = ((backA ρ0 ρ ws).set u _).set v x
        rw [ih ρ x h2, List.set_comm _ _ h1]
    rw [e2 vs ρ _ hv] at R2
    exact R2
/-- the frame with one thing more: a list in the making -/
theorem rel_frame {F S H : Hp} {σ : L2.St} {ρ : AEnv} {p : Addr} {o : HO} (R : Rel F S σ H ρ) (hp : H p = none) (ho : ∀ xs, o ≠ .tup xs) : Rel (upd F p o) S σ (upd H p o) ρ := by
  obtain ⟨fp, R⟩ := R
  have r := R.laid hp o
  refine ⟨fp, { r with out := fun i a ha => ?_, frm := fun a u h => ?_, apt := ⟨fun a u h => ?_, fun a xs h => ?_⟩ }⟩
  · have na : a ≠ p := fun e => (R.out i a ha).2.2 (by rw [e]; exact hp)
    rw [upd_ne na]
    exact r.out i a ha
  · by_cases e : a = p
    · subst e; rw [upd_same] at h ⊢; exact h
    · rw [upd_ne e] at h ⊢; exact R.frm _ _ h
  · by_cases e : a = p
    · rw [e]; exact none_sub R.sub hp
    · rw [upd_ne e] at h; exact R.apt.1 _ _ h
  · by_cases e : a = p
    · rw [e, upd_same] at h; exact ho xs (Option.some.inj h)
    · rw [upd_ne e] at h; exact R.apt.2 _ _ h
theorem rel_reframe {F S H : Hp} {σ : L2.St} {ρ : AEnv} {p : Addr} {o o' : HO} (R : Rel (upd F p o) S σ H ρ) (ho : ∀ xs, o' ≠ .tup xs) : Rel (upd F p o') S σ (upd H p o') ρ := by
  obtain ⟨fp, R⟩ := R
  have hS : S p = none := R.apt.1 p o upd_same
  have npf : ∀ i a, a ∈ fp i → a ≠ p := fun i a ha e => by
    have := (R.out i a ha).2.1
    rw [e, upd_same] at this
    cases this
  refine ⟨fp, { len := R.len, slot := fun i av h => slot_keep (Le.refl S) (R.slot i av h) fun b hb => upd_ne (npf i b hb), nd := R.nd, dis := R.dis, out := fun i a ha => ?_, sub := fun a u h => ?_, frm := fun a u h => ?_, apt := ⟨fun a u h => ?_, fun a xs h => ?_⟩ }⟩
  · have na := npf i a ha
    have r := R.out i a ha
    rw [upd_ne na] at r ⊢
    rw [upd_ne na]
    exact r
  · have na : a ≠ p := ne_of_none h hS
    rw [upd_ne na]; exact R.sub _ _ h
  · by_cases e : a = p
    · subst e; rw [upd_same] at h ⊢; exact h
    · rw [upd_ne e] at h ⊢
      exact R.frm _ _ (by rw [upd_ne e]; exact h)
  · by_cases e : a = p
    · rw [e]; exact hS
    · rw [upd_ne e] at h
      exact R.apt.1 a u (by rw [upd_ne e]; exact h)
  · by_cases e : a = p
    · rw [e, upd_same] at h; exact ho xs (Option.some.inj h)
    · rw [upd_ne e] at h
      exact R.apt.2 a xs (by rw [upd_ne e]; exact h)
/-- .. which is done -/
theorem rel_unframe {F S H : Hp} {σ : L2.St} {ρ : AEnv} {p : Addr} {vs : List V} {ds : List PyData} (R : Rel (upd F p (.lst vs)) S σ H ρ) (hF : F p = none) (r : RpAll S vs ds) : NewAt F S σ H ρ p (.lst ds) := by
  obtain ⟨fp, R⟩ := R
  have hp := R.frm p _ upd_same
  have npf : ∀ i a, a ∈ fp i → a ≠ p := fun i a ha e => by
    have := (R.out i a ha).2.1
    rw [e, upd_same] at this
    cases this
  refine ⟨fp, [p], { len := R.len, slot := R.slot, nd := R.nd, dis := R.dis, out := fun i a ha => ?_, sub := R.sub, frm := fun a u h => ?_, apt := ⟨fun a u h => ?_, fun a xs h => ?_⟩ }, ⟨rfl, vs, hp, r⟩, by simp, fun b hb => ?_⟩
  · have := R.out i a ha
    rw [upd_ne (npf i a ha)] at this
    exact this
  · exact R.frm a u (by rw [upd_ne (ne_of_none h hF)]; exact h)
  · exact R.apt.1 a u (by rw [upd_ne (ne_of_none h hF)]; exact h)
  · exact R.apt.2 a xs (by rw [upd_ne (ne_of_none h hF)]; exact h)
  · obtain rfl : b = p := by simpa using hb
    exact ⟨R.apt.1 _ _ upd_same, hF, by rw [hp]; exact (fun z => by cases z), fun i hi => npf i b hi rfl⟩
/-- a block's target: raw, and on data; its slots are the block's own -/
def CtOk (K : PySem.W.Frag) (vs : List Nat) (g : TG) (sg : WG) : Prop := ∀ (F S : Hp) (σ : L2.St) (H : Hp) (ρ : AEnv) (x : V) (d : PyData) (P : AEnv → Prop) (Q : L2.St → Hp → Prop), Rel F S σ H ρ → Rp S x d → sg d P ρ →
  (∀ ρ' σ', P ρ' → Rel F S σ' H ρ' → wipe σ' vs = wipe σ vs → Q σ' H) → g x σ H Q
theorem ct_name {K : PySem.W.Frag} {vs : List Nat} {j : Nat} (h : j ∈ vs) : CtOk K vs (gName j) (gN j) := fun F S σ H ρ x d P Q R r hs q => q _ _ hs (R.putDat j r) (wipe_set h)
def gNs : List Nat → TGs
  | [] => gNil
  | j :: js => gCons (gName j) (gNs js)
def sNs : List Nat → WGs
  | [] => gNilA
  | j :: js => gConsA (gN j) (sNs js)
theorem ct_names {vs : List Nat} : ∀ (js : List Nat), (∀ j ∈ js, j ∈ vs) → ∀ (F S : Hp) (σ : L2.St) (H : Hp) (ρ : AEnv) (xs : List V) (ds : List PyData) (P : AEnv → Prop) (Q : L2.St → Hp → Prop), Rel F S σ H ρ → RpAll S xs ds → sNs js ds P ρ →
    (∀ ρ' σ', P ρ' → Rel F S σ' H ρ' → wipe σ' vs = wipe σ vs → Q σ' H) → gNs js xs σ H Q
  | [], _, F, S, σ, H, ρ, xs, ds, P, Q, R, r, hs, q => by
    obtain ⟨rfl, hs⟩ := hs
    cases r
    exact ⟨rfl, q _ _ hs R rfl⟩
  | j :: js, hj, F, S, σ, H, ρ, xs, ds, P, Q, R, r, hs, q => by
    cases r with
    | nil => exact hs.elim
    | cons r1 r2 =>
      refine ⟨_, _, rfl, ct_names js (fun i hi => hj i (List.mem_cons_of_mem _ hi)) F S _ H _ _ _ P Q (R.putDat j r1) r2 hs fun ρ' σ' hP R' e => q _ _ hP R' (e.trans (wipe_set (hj j List.mem_cons_self)))⟩
theorem ct_tup {K : PySem.W.Frag} {vs : List Nat} {n : Nat} {js : List Nat} (h : ∀ j ∈ js, j ∈ vs) : CtOk K vs (gTup K n (gNs js)) (gTupA n (sNs js)) := fun F S σ H ρ x d P Q R r hs q => by
  unfold gTupA at hs
  split at hs
  · cases r with
    | @tup a us _ ha ra => exact ⟨a, us, rfl, .inl (.inl (R.sub _ _ ha)), by rw [rps_length ra]; exact hs.1, ct_names js h F S σ H ρ us _ P Q R ra hs.2 q⟩
  · exact hs.elim
structure ATs (X : Cx) (ifs : List Expr) (w : WT) : Prop where pts : ∀ F : Hp, PTs X ifs (twt F w)
def wYes : WT := fun P ρ => P true ρ
theorem ats_nil {X : Cx} : ATs X [] wYes := ⟨fun F => ⟨fun pins s σ H Q I ⟨S, ρ, P, R, h, q⟩ => pts_nil.run pins s σ H Q I (q _ _ _ _ h (Le.refl S) R)⟩⟩
theorem ats_one {X : Cx} {c : Expr} {w : WT} (h : AT X c w) : ATs X [c] w := ⟨fun F => pts_one (h.pt F)⟩
/-- the turns: what is left, what is made -/
def wLcL (sg : WG) (wt : WT) (we : WE) (vs : List Nat) (P : List PyData → AEnv → Prop) : List PyData → List PyData → AEnv → Prop
  | [], acc, ρ => P acc ρ
  | d :: ds, acc, ρ => sg d (fun ρ1 => wt (fun b ρ2 => if b = true then we (fun y ρ3 => acc.length < sizeLine ∧ wLcL sg wt we vs P ds (acc ++ [y]) (wipeA ρ3 vs)) ρ2 else wLcL sg wt we vs P ds acc (wipeA ρ2 vs)) ρ1) ρ
def wLc (wi : WI) (sg : WG) (wt : WT) (we : WE) (vs : List Nat) : WO := fun P ρ => wi (fun ds ρ1 => wLcL sg wt we vs (fun acc ρ2 => P (.lst acc) (backA ρ1 ρ2 vs)) ds [] (wipeA ρ1 vs)) ρ
section
variable {X : Cx} {F : Hp}
/-- PI, PTs, PE of the block for every frame, at once: the readings may use a frame of their own -/
theorem lc_go {K : PySem.W.Frag} {wi : WI} {g : TG} {sg : WG} {wt : WT} {we : WE} {vs : List Nat} (ct : CtOk K vs g sg) (nd : vs.Nodup) : ∀ σ H Q, two F (wLc wi sg wt we vs) σ H Q →
    tLc (twi F wi) g (fun σ H Q => ∃ G, twt G wt σ H Q) (fun σ H Q => ∃ G, tw G we σ H Q) vs σ H Q := by
  intro σ H Q ⟨S, ρ, P, R, hw, q⟩
  refine ⟨S, ρ, _, R, hw, fun ds ρ1 S1 H1 J hP e1 R1 hJ D hD => ?_⟩
  have hFD : F D = none := none_sub R1.frm hD
  refine ⟨fun i m H' => ∃ S2 ρ2 us acc, Le S1 S2 ∧ Rel (upd F D (.lst us)) S2 (wipe σ vs) H' ρ2 ∧ RpAll S2 us acc ∧ wLcL sg wt we vs (fun acc ρ2 => P (.lst acc) (backA ρ1 ρ2 vs)) (ds.drop i) acc ρ2 ∧ m = ds.length - i ∧ i ≤ ds.length,
    ⟨ds.length, S1, _, [], [], Le.refl S1, rel_frame (R1.wipe vs) hD (fun _ z => by cases z), .nil, hP, rfl, Nat.zero_le _⟩, ?_⟩
  rintro i m H' ⟨S2, ρ2, us, acc, e2, R2, ra, hw2, rfl, hi⟩
  by_cases hlt : i < ds.length
  · obtain ⟨go, yl⟩ := (hJ i _ S2 _ H' ρ2 e2 R2).1 ds[i] (List.getElem?_eq_getElem hlt)
    refine .inr ⟨go, fun H3 => ∃ S3 ρ3 us acc, Le S1 S3 ∧ Rel (upd F D (.lst us)) S3 (wipe σ vs) H3 ρ3 ∧ RpAll S3 us acc ∧ wLcL sg wt we vs (fun acc ρ2 => P (.lst acc) (backA ρ1 ρ2 vs)) (ds.drop (i + 1)) acc ρ3,
      fun H3 ⟨S3, ρ3, us, acc, e3, R3, r3, w3⟩ => ⟨ds.length - (i + 1), by omega, S3, ρ3, us, acc, e3, R3, r3, w3, rfl, hlt⟩, fun x H3 hy => ?_⟩
    obtain ⟨S3, e3, R3, r3⟩ := yl x H3 hy
    rw [List.drop_eq_getElem_cons hlt] at hw2
    refine ct _ S3 _ H3 ρ2 x ds[i] _ _ R3 r3 hw2 fun ρ4 σ4 h4 R4 ew => ?_
    have ew' : wipe σ4 vs = wipe σ vs := ew.trans wipe_wipe
    refine ⟨ew', _, S3, ρ4, _, R4, h4, fun b ρ5 S5 H5 h5 e5 R5 => ?_⟩
    cases b with
    | true =>
      rw [if_pos rfl] at h5 ⊢
      refine ⟨_, S5, ρ5, _, R5, h5, fun y ρ6 S6 H6 v h6 e6 R6 r6 => ?_⟩
      refine ⟨us, R6.frm D _ upd_same, by rw [rps_length ra]; exact h6.1, S6, _, us ++ [v], acc ++ [y], (((e2.trans e3).trans e5).trans e6), ?_, rps_append (rps_mono ((e3.trans e5).trans e6) ra) (.cons r6 .nil), h6.2⟩
      have := (rel_reframe (o' := .lst (us ++ [v])) R6 (fun _ z => by cases z)).wipe vs
      rw [ew'] at this
      exact this
    | false =>
      have := R5.wipe vs
      rw [ew'] at this
      exact ⟨S5, _, us, acc, ((e2.trans e3).trans e5), this, rps_mono (e3.trans e5) ra, h5⟩
  · have e : i = ds.length := by omega
    subst e
    rw [List.drop_length] at hw2
    refine .inl ⟨(hJ _ _ S2 _ H' ρ2 e2 R2).2 (Nat.le_refl _), ?_⟩
    exact q _ _ _ _ _ hw2 (e1.trans e2) (rel_unframe (Rel.back R1 e2 nd R2) hFD ra)
theorem pe_ex {Y : Cx} {e : Expr} {w : WE} (h : AE Y e w) : PE Y e (fun σ H Q => ∃ G, tw G w σ H Q) := ⟨fun pins s σ H Q I ⟨G, q⟩ => (h.pe G).run pins s σ H Q I q⟩
theorem pts_ex {Y : Cx} {e : List Expr} {w : WT} (h : ATs Y e w) : PTs Y e (fun σ H Q => ∃ G, twt G w σ H Q) := ⟨fun pins s σ H Q I ⟨G, q⟩ => (h.pts G).run pins s σ H Q I q⟩
variable {elt tg iter : Expr} {ifs : List Expr} {scope : Scope} {own : List (Str × Nat)} {pos spos py : Pos} {wi : WI} {g : TG} {sg : WG} {wt : WT} {we : WE}
theorem ao_lc (hc : X.calm = true) (hN : X.N.Nodup) (ok : BlkOk X.N X.env.scope scope own) (hi : AI X tg iter wi) (ct : CtOk X.K (own.map (·.2)) g sg) (nd : (own.map (·.2)).Nodup)
    (hg : ∀ (s : Shared) (H : Hp) (C : Addr) (cl : List (Str × Addr)) (fp : List Addr), PG (X.blk s H scope (compEnvC scope cl C X.env) fp) tg g) (ht : ∀ (s : Shared) (H : Hp) (C : Addr) (cl : List (Str × Addr)) (fp : List Addr), ATs (X.blk s H scope (compEnvC scope cl C X.env) fp) ifs wt)
    (he : ∀ (s : Shared) (H : Hp) (C : Addr) (cl : List (Str × Addr)) (fp : List Addr), AE (X.blk s H scope (compEnvC scope cl C X.env) fp) elt we) (hs : ∀ x, foldedSetIterable iter X.env x = pure x := by intro _; rfl) :
    AO X (.ListComp elt [⟨tg, iter, ifs, 0⟩] scope pos) (wLc wi sg wt we (own.map (·.2))) :=
  ⟨fun F => PEimp (pe_lc hc hN (hi.pi F) ok hg (fun s H C cl fp => pts_ex (ht s H C cl fp)) (fun s H C cl fp => pe_ex (he s H C cl fp)) hs) (lc_go ct nd)⟩
/-- y = [..], the name y local, on one line -/
theorem as_setLcO {i : Nat} {y : Str} (hc : X.calm = true) (hN : X.N.Nodup) (hy : X.N[i]? = some y) (hyl : X.env.scope.names.lookup y = some .local) (hsw : swapsWith (.ListComp elt [⟨tg, iter, ifs, 0⟩] scope pos) (some (.Name y py)) spos.line X.env = pure true)
    (ok : BlkOk X.N X.env.scope scope own) (hi : AI X tg iter wi) (ct : CtOk X.K (own.map (·.2)) g sg) (nd : (own.map (·.2)).Nodup)
    (hg : ∀ (s : Shared) (H : Hp) (C : Addr) (cl : List (Str × Addr)) (fp : List Addr), PG (X.blk s H scope (compEnvC scope cl C X.env) fp) tg g) (ht : ∀ (s : Shared) (H : Hp) (C : Addr) (cl : List (Str × Addr)) (fp : List Addr), ATs (X.blk s H scope (compEnvC scope cl C X.env) fp) ifs wt)
    (he : ∀ (s : Shared) (H : Hp) (C : Addr) (cl : List (Str × Addr)) (fp : List Addr), AE (X.blk s H scope (compEnvC scope cl C X.env) fp) elt we) (hs : ∀ x, foldedSetIterable iter X.env x = pure x := by intro _; rfl) :
    AS X (.Assign [.Name y py] (.ListComp elt [⟨tg, iter, ifs, 0⟩] scope pos) spos) (wSetO i (wLc wi sg wt we (own.map (·.2)))) :=
  ⟨fun F => PSimp (ps_setLc hc hN hy hyl hsw (hi.pi F) ok hg (fun s H C cl fp => pts_ex (ht s H C cl fp)) (fun s H C cl fp => pe_ex (he s H C cl fp)) hs) fun D σ H ⟨S, ρ, k, R, hw, q, _⟩ =>
    lc_go ct nd σ H _ ⟨S, ρ, _, R, hw, fun o ρ' S' H' a hP e1 N1 => q _ _ _ _ hP e1 (N1.put i)⟩⟩
theorem as_setLc {i : Nat} {y : Str} (hc : X.calm = true) (hN : X.N.Nodup) (hy : X.N[i]? = some y) (hyl : X.env.scope.names.lookup y = some .local) (hsw : swapsWith (.ListComp elt [⟨tg, iter, ifs, 0⟩] scope pos) (some (.Name y py)) spos.line X.env = pure true)
    (ok : BlkOk X.N X.env.scope scope own) (hi : AI X tg iter wi) (ct : CtOk X.K (own.map (·.2)) g sg) (nd : (own.map (·.2)).Nodup)
    (hg : ∀ (s : Shared) (H : Hp) (C : Addr) (cl : List (Str × Addr)) (fp : List Addr), PG (X.blk s H scope (compEnvC scope cl C X.env) fp) tg g) (ht : ∀ (s : Shared) (H : Hp) (C : Addr) (cl : List (Str × Addr)) (fp : List Addr), ATs (X.blk s H scope (compEnvC scope cl C X.env) fp) ifs wt)
    (he : ∀ (s : Shared) (H : Hp) (C : Addr) (cl : List (Str × Addr)) (fp : List Addr), AE (X.blk s H scope (compEnvC scope cl C X.env) fp) elt we) (hs : ∀ x, foldedSetIterable iter X.env x = pure x := by intro _; rfl) :
    AS X (.Assign [.Name y py] (.ListComp elt [⟨tg, iter, ifs, 0⟩] scope pos) spos) (wSet i (wFz (wLc wi sg wt we (own.map (·.2))))) :=
  ⟨fun F => PSimp (ps_setLc hc hN hy hyl hsw (hi.pi F) ok hg (fun s H C cl fp => pts_ex (ht s H C cl fp)) (fun s H C cl fp => pe_ex (he s H C cl fp)) hs) fun D σ H ⟨S, ρ, k, R, hw, q, _⟩ =>
    lc_go ct nd σ H _ ⟨S, ρ, (fun o ρ' => match ownD o with | some d => k.nx (ρ'.set i (.dat d)) | none => False), R, hw, fun o ρ' S' H' a hP e1 N1 => by
      dsimp only at hP
      split at hP
      · rename_i d hd
        obtain ⟨S2, e2, R2, r2⟩ := N1.frz hd
        exact q _ _ _ _ hP (e1.trans e2) (R2.putDat i r2)
      · exact hP.elim⟩⟩
end
end AL

set_option Elab.async false
set_option linter.all false
set_option maxRecDepth 100000
set_option maxHeartbeats 4000000
namespace AL
open PySem PySem.Spec PyProof.Rows L2
/-! ### built-ins on data -/
abbrev W1 := PyData → (PyData → Prop) → Prop
def Op1 (r : List V → Hp → VK → Prop) (f : W1) : Prop := ∀ (F S : Hp) (σ : L2.St) (H : Hp) (ρ : AEnv) (x : V) (d : PyData) (P : PyData → Prop) (Q : VK), Rel F S σ H ρ → Rp S x d → f d P →
  (∀ z S' H' v, P z → Le S S' → Rel F S' σ H' ρ → Rp S' v z → Q v H') → r [x] H Q
def OpO (r : List V → Hp → VK → Prop) (f : PyData → (MO → Prop) → Prop) : Prop := ∀ (F S : Hp) (σ : L2.St) (H : Hp) (ρ : AEnv) (x : V) (d : PyData) (P : MO → Prop) (Q : VK), Rel F S σ H ρ → Rp S x d → f d P →
  (∀ o S' H' a, P o → Le S S' → NewAt F S' σ H' ρ a o → Q (.ref a) H') → r [x] H Q
def wUn (f : W1) (w : WE) : WE := fun P ρ => w (fun d ρ' => f d (fun z => P z ρ')) ρ
def wUnO (f : PyData → (MO → Prop) → Prop) (w : WE) : WO := fun P ρ => w (fun d ρ' => f d (fun z => P z ρ')) ρ
section
variable {X : Cx} {F : Hp} {e a b : Expr} {es : List Expr} {p pos : Pos} {x : Str} {w wa wb : WE} {r : List V → Hp → VK → Prop} {f : W1} {id T : String}
theorem un_go (hf : Op1 r f) : ∀ σ H Q, tw F (wUn f w) σ H Q → tCB r (tCons (tw F w) tNil) σ H Q := fun σ H Q ⟨S, ρ, P, R, h, q⟩ =>
  ⟨S, ρ, _, R, h, fun d ρ1 S1 H1 x h1 e1 R1 r1 => hf F S1 σ H1 ρ1 x d _ _ R1 r1 h1 fun z S' H' v hz e3 R3 r3 => q _ _ _ _ _ hz (e1.trans e3) R3 r3⟩
theorem unO_go {f : PyData → (MO → Prop) → Prop} (hf : OpO r f) : ∀ σ H Q, two F (wUnO f w) σ H Q → tCB r (tCons (tw F w) tNil) σ H Q := fun σ H Q ⟨S, ρ, P, R, h, q⟩ =>
  ⟨S, ρ, _, R, h, fun d ρ1 S1 H1 x h1 e1 R1 r1 => hf F S1 σ H1 ρ1 x d _ _ R1 r1 h1 fun o S' H' a hz e3 N3 => q _ _ _ _ _ hz (e1.trans e3) N3⟩
theorem ae_blt (hc : CallR X (.builtin id) r) (hf : Op1 r f) (hg : Gl X x) (hm : X.mg x = none) (hv : bootBuiltins x = some (.builtin id)) (ha : AE X a w) (hn : x ≠ "__name__" := by decide) (hdb : (x == ("__debug__" : Str)) = false := by decide)
    (he : starEach (a :: []) X.env = (false, eval a X.env) :: starEach [] X.env := by rfl) (hpl : (backTo pos (starEach [] X.env)).any (·.1) = false := by rfl) : AE X (.Call (.Name x p) [a] [] pos) (wUn f w) :=
  ⟨fun F => PEimp (pe_callB hc hg hm hv (pa_cons (ha.pe F) pa_nil he) hn hdb he hpl) (un_go hf)⟩
theorem ae_bty (hc : CallR X (.type T) r) (hf : Op1 r f) (hg : Gl X x) (hm : X.mg x = none) (hv : bootBuiltins x = some (.type T)) (ha : AE X a w) (hn : x ≠ "__name__" := by decide) (hdb : (x == ("__debug__" : Str)) = false := by decide)
    (he : starEach (a :: []) X.env = (false, eval a X.env) :: starEach [] X.env := by rfl) (hpl : (backTo pos (starEach [] X.env)).any (·.1) = false := by rfl) : AE X (.Call (.Name x p) [a] [] pos) (wUn f w) :=
  ⟨fun F => PEimp (pe_callTy hc hg hm hv (pa_cons (ha.pe F) pa_nil he) hn hdb he hpl) (un_go hf)⟩
theorem ao_blt {f : PyData → (MO → Prop) → Prop} (hc : CallR X (.builtin id) r) (hf : OpO r f) (hg : Gl X x) (hm : X.mg x = none) (hv : bootBuiltins x = some (.builtin id)) (ha : AE X a w) (hn : x ≠ "__name__" := by decide) (hdb : (x == ("__debug__" : Str)) = false := by decide)
    (he : starEach (a :: []) X.env = (false, eval a X.env) :: starEach [] X.env := by rfl) (hpl : (backTo pos (starEach [] X.env)).any (·.1) = false := by rfl) : AO X (.Call (.Name x p) [a] [] pos) (wUnO f w) :=
  ⟨fun F => PEimp (pe_callB hc hg hm hv (pa_cons (ha.pe F) pa_nil he) hn hdb he hpl) (unO_go hf)⟩
theorem ao_bty {f : PyData → (MO → Prop) → Prop} (hc : CallR X (.type T) r) (hf : OpO r f) (hg : Gl X x) (hm : X.mg x = none) (hv : bootBuiltins x = some (.type T)) (ha : AE X a w) (hn : x ≠ "__name__" := by decide) (hdb : (x == ("__debug__" : Str)) = false := by decide)
    (he : starEach (a :: []) X.env = (false, eval a X.env) :: starEach [] X.env := by rfl) (hpl : (backTo pos (starEach [] X.env)).any (·.1) = false := by rfl) : AO X (.Call (.Name x p) [a] [] pos) (wUnO f w) :=
  ⟨fun F => PEimp (pe_callTy hc hg hm hv (pa_cons (ha.pe F) pa_nil he) hn hdb he hpl) (unO_go hf)⟩
/-- len of a list, a tuple, a dict -/
def lenD : W1 := fun d P => match d with
  | .list xs => P (.int xs.length)
  | .tuple xs => P (.int xs.length)
  | _ => False
def rLenA (K : PySem.W.Frag) : List V → Hp → VK → Prop := fun xs H Q => ∃ p ys, xs = [.ref p] ∧ (SqL K H p ys ∨ SqT K H p ys) ∧ Q (.int ys.length) H
theorem op1_len {K : PySem.W.Frag} : Op1 (rLenA K) lenD := by
  intro F S σ H ρ x d P Q R r h q
  unfold lenD at h
  split at h
  · cases r with
    | @lst a vs _ ha ra => exact ⟨a, vs, rfl, .inl (.inl (.inl (R.sub _ _ ha))), by rw [rps_length ra]; exact q _ _ _ _ h (Le.refl S) R (.int _)⟩
  · cases r with
    | @tup a vs _ ha ra => exact ⟨a, vs, rfl, .inr (.inl (.inl (R.sub _ _ ha))), by rw [rps_length ra]; exact q _ _ _ _ h (Le.refl S) R (.int _)⟩
  · exact h.elim
theorem ae_len (hg : Gl X "len") (hm : X.mg "len" = none) (ha : AE X a w) (he : starEach (a :: []) X.env = (false, eval a X.env) :: starEach [] X.env := by rfl) (hpl : (backTo pos (starEach [] X.env)).any (·.1) = false := by rfl) :
    AE X (.Call (.Name "len" p) [a] [] pos) (wUn lenD w) := ae_blt call_len_seq op1_len hg hm PySem.boot_len ha (by decide) (by decide) he hpl
/-- int(x) of an int, a bool -/
def intOfD : W1 := fun d P => match d with
  | .int i => P (.int i)
  | .bool k => P (.int (if k then 1 else 0))
  | _ => False
theorem op1_int : Op1 (fun xs H Q => (∃ i, xs = [.int i] ∧ Q (.int i) H) ∨ ∃ k, xs = [.bl k] ∧ Q (.int (if k then 1 else 0)) H) intOfD := by
  intro F S σ H ρ x d P Q R r h q
  unfold intOfD at h
  split at h
  · cases r; exact .inl ⟨_, rfl, q _ _ _ _ h (Le.refl S) R (.int _)⟩
  · cases r; exact .inr ⟨_, rfl, q _ _ _ _ h (Le.refl S) R (.int _)⟩
  · exact h.elim
theorem ae_intOf (hg : Gl X "int") (hm : X.mg "int" = none) (ha : AE X a w) (he : starEach (a :: []) X.env = (false, eval a X.env) :: starEach [] X.env := by rfl) (hpl : (backTo pos (starEach [] X.env)).any (·.1) = false := by rfl) :
    AE X (.Call (.Name "int" p) [a] [] pos) (wUn intOfD w) := ae_bty call_int1 op1_int hg hm boot_int ha (by decide) (by decide) he hpl
def absD : W1 := fun d P => match d with | .int i => P (.int (if i < 0 then -i else i)) | _ => False
theorem op1_abs : Op1 (fun xs H Q => ∃ i, xs = [.int i] ∧ Q (.int (if i < 0 then -i else i)) H) absD := by
  intro F S σ H ρ x d P Q R r h q
  unfold absD at h
  split at h
  · cases r; exact ⟨_, rfl, q _ _ _ _ h (Le.refl S) R (.int _)⟩
  · exact h.elim
theorem ae_abs (hg : Gl X "abs") (hm : X.mg "abs" = none) (ha : AE X a w) (he : starEach (a :: []) X.env = (false, eval a X.env) :: starEach [] X.env := by rfl) (hpl : (backTo pos (starEach [] X.env)).any (·.1) = false := by rfl) :
    AE X (.Call (.Name "abs" p) [a] [] pos) (wUn absD w) := ae_blt call_abs op1_abs hg hm (by decide +kernel) ha (by decide) (by decide) he hpl
/-- tuple(x) of a list, a tuple -/
def tupD : W1 := fun d P => match d with
  | .list xs => P (.tuple xs)
  | .tuple xs => P (.tuple xs)
  | _ => False
def rTupA (K : PySem.W.Frag) : List V → Hp → VK → Prop := fun xs H Q => ∃ p ys, xs = [.ref p] ∧ ((SqL K H p ys ∧ ∀ l, H l = none → Q (.ref l) (upd H l (.tup ys))) ∨ (SqT K H p ys ∧ Q (.ref p) H))
theorem op1_tup {K : PySem.W.Frag} : Op1 (rTupA K) tupD := by
  intro F S σ H ρ x d P Q R r h q
  unfold tupD at h
  split at h
  · cases r with
    | @lst a vs _ ha ra => exact ⟨a, vs, rfl, .inl ⟨.inl (.inl (R.sub _ _ ha)), fun l hl => q _ _ _ _ h (le_new (none_sub R.sub hl)) (R.new hl _) (.tup upd_same (rps_mono (le_new (none_sub R.sub hl)) ra))⟩⟩
  · cases r with
    | @tup a vs _ ha ra => exact ⟨a, vs, rfl, .inr ⟨.inl (.inl (R.sub _ _ ha)), q _ _ _ _ h (Le.refl S) R (.tup ha ra)⟩⟩
  · exact h.elim
theorem ae_tuple (hg : Gl X "tuple") (hm : X.mg "tuple" = none) (ha : AE X a w) (he : starEach (a :: []) X.env = (false, eval a X.env) :: starEach [] X.env := by rfl) (hpl : (backTo pos (starEach [] X.env)).any (·.1) = false := by rfl) :
    AE X (.Call (.Name "tuple" p) [a] [] pos) (wUn tupD w) := ae_bty call_tuple_of op1_tup hg hm boot_tuple ha (by decide) (by decide) he hpl
/-- list(x) of a list, a tuple: a new list -/
def lstD : PyData → (MO → Prop) → Prop := fun d P => match d with
  | .list xs => P (.lst xs)
  | .tuple xs => P (.lst xs)
  | _ => False
def rLstA (K : PySem.W.Frag) : List V → Hp → VK → Prop := fun xs H Q => ∃ p ys, xs = [.ref p] ∧ (SqL K H p ys ∨ SqT K H p ys) ∧ ∀ l, H l = none → Q (.ref l) (upd H l (.lst ys))
theorem opO_lst {K : PySem.W.Frag} : OpO (rLstA K) lstD := by
  intro F S σ H ρ x d P Q R r h q
  unfold lstD at h
  split at h
  · cases r with
    | @lst a vs _ ha ra => exact ⟨a, vs, rfl, .inl (.inl (.inl (R.sub _ _ ha))), fun l hl => q _ _ _ _ h (Le.refl S) (new_lst R hl ra)⟩
  · cases r with
    | @tup a vs _ ha ra => exact ⟨a, vs, rfl, .inr (.inl (.inl (R.sub _ _ ha))), fun l hl => q _ _ _ _ h (Le.refl S) (new_lst R hl ra)⟩
  · exact h.elim
theorem ao_list (hg : Gl X "list") (hm : X.mg "list" = none) (ha : AE X a w) (he : starEach (a :: []) X.env = (false, eval a X.env) :: starEach [] X.env := by rfl) (hpl : (backTo pos (starEach [] X.env)).any (·.1) = false := by rfl) :
    AO X (.Call (.Name "list" p) [a] [] pos) (wUnO lstD w) := ao_bty call_list_of opO_lst hg hm boot_list ha (by decide) (by decide) he hpl
/-- sum, any, all, max, min of a list -/
def sumD : W1 := fun d P => ∃ ns : List Int, d = .list (ns.map .int) ∧ P (.int ns.sum)
theorem op1_sum {K : PySem.W.Frag} : Op1 (rSum K) sumD := by
  intro F S σ H ρ x d P Q R r ⟨ns, hd, h⟩ q
  subst hd
  cases r with
  | @lst a vs _ ha ra =>
    obtain rfl := rps_ints ra
    exact ⟨a, ns, rfl, .inl (.inl (R.sub _ _ ha)), q _ _ _ _ h (Le.refl S) R (.int _)⟩
theorem ae_sum (hc : X.calm = true) (hg : Gl X "sum") (hm : X.mg "sum" = none) (ha : AE X a w) (he : starEach (a :: []) X.env = (false, eval a X.env) :: starEach [] X.env := by rfl) (hpl : (backTo pos (starEach [] X.env)).any (·.1) = false := by rfl) :
    AE X (.Call (.Name "sum" p) [a] [] pos) (wUn sumD w) := ae_blt (cr_sum hc) op1_sum hg hm (by decide +kernel) ha (by decide) (by decide) he hpl
def anyD : W1 := fun d P => ∃ bs : List Bool, d = .list (bs.map .bool) ∧ P (.bool (bs.any (fun b => b)))
def allD : W1 := fun d P => ∃ bs : List Bool, d = .list (bs.map .bool) ∧ P (.bool (bs.all (fun b => b)))
theorem op1_any {K : PySem.W.Frag} : Op1 (rAny K) anyD := by
  intro F S σ H ρ x d P Q R r ⟨ns, hd, h⟩ q
  subst hd
  cases r with
  | @lst a vs _ ha ra =>
    obtain rfl := rps_bools ra
    exact ⟨a, ns, rfl, .inl (.inl (R.sub _ _ ha)), q _ _ _ _ h (Le.refl S) R (.bl _)⟩
theorem op1_all {K : PySem.W.Frag} : Op1 (rAll K) allD := by
  intro F S σ H ρ x d P Q R r ⟨ns, hd, h⟩ q
  subst hd
  cases r with
  | @lst a vs _ ha ra =>
    obtain rfl := rps_bools ra
    exact ⟨a, ns, rfl, .inl (.inl (R.sub _ _ ha)), q _ _ _ _ h (Le.refl S) R (.bl _)⟩
theorem ae_any (hc : X.calm = true) (hg : Gl X "any") (hm : X.mg "any" = none) (ha : AE X a w) (he : starEach (a :: []) X.env = (false, eval a X.env) :: starEach [] X.env := by rfl) (hpl : (backTo pos (starEach [] X.env)).any (·.1) = false := by rfl) :
    AE X (.Call (.Name "any" p) [a] [] pos) (wUn anyD w) := ae_blt (cr_any hc) op1_any hg hm (by decide +kernel) ha (by decide) (by decide) he hpl
theorem ae_all (hc : X.calm = true) (hg : Gl X "all") (hm : X.mg "all" = none) (ha : AE X a w) (he : starEach (a :: []) X.env = (false, eval a X.env) :: starEach [] X.env := by rfl) (hpl : (backTo pos (starEach [] X.env)).any (·.1) = false := by rfl) :
    AE X (.Call (.Name "all" p) [a] [] pos) (wUn allD w) := ae_blt (cr_all hc) op1_all hg hm (by decide +kernel) ha (by decide) (by decide) he hpl
def maxLD : W1 := fun d P => ∃ ns : List Int, d = .list (ns.map .int) ∧ 0 < ns.length ∧ ∀ m, m ∈ ns → (∀ y, y ∈ ns → y ≤ m) → P (.int m)
def minLD : W1 := fun d P => ∃ ns : List Int, d = .list (ns.map .int) ∧ 0 < ns.length ∧ ∀ m, m ∈ ns → (∀ y, y ∈ ns → m ≤ y) → P (.int m)
theorem op1_maxL {K : PySem.W.Frag} : Op1 (rMax K) maxLD := by
  intro F S σ H ρ x d P Q R r ⟨ns, hd, h0, h⟩ q
  subst hd
  cases r with
  | @lst a vs _ ha ra =>
    obtain rfl := rps_ints ra
    exact ⟨a, ns, rfl, .inl (.inl (R.sub _ _ ha)), h0, fun m h1 h2 => q _ _ _ _ (h m h1 h2) (Le.refl S) R (.int _)⟩
theorem op1_minL {K : PySem.W.Frag} : Op1 (rMin K) minLD := by
  intro F S σ H ρ x d P Q R r ⟨ns, hd, h0, h⟩ q
  subst hd
  cases r with
  | @lst a vs _ ha ra =>
    obtain rfl := rps_ints ra
    exact ⟨a, ns, rfl, .inl (.inl (R.sub _ _ ha)), h0, fun m h1 h2 => q _ _ _ _ (h m h1 h2) (Le.refl S) R (.int _)⟩
theorem ae_maxL (hc : X.calm = true) (hg : Gl X "max") (hm : X.mg "max" = none) (ha : AE X a w) (he : starEach (a :: []) X.env = (false, eval a X.env) :: starEach [] X.env := by rfl) (hpl : (backTo pos (starEach [] X.env)).any (·.1) = false := by rfl) :
    AE X (.Call (.Name "max" p) [a] [] pos) (wUn maxLD w) := ae_blt (cr_max hc) op1_maxL hg hm (by decide +kernel) ha (by decide) (by decide) he hpl
theorem ae_minL (hc : X.calm = true) (hg : Gl X "min") (hm : X.mg "min" = none) (ha : AE X a w) (he : starEach (a :: []) X.env = (false, eval a X.env) :: starEach [] X.env := by rfl) (hpl : (backTo pos (starEach [] X.env)).any (·.1) = false := by rfl) :
    AE X (.Call (.Name "min" p) [a] [] pos) (wUn minLD w) := ae_blt (cr_min hc) op1_minL hg hm (by decide +kernel) ha (by decide) (by decide) he hpl
/-- max(i, j), min(i, j) -/
def wBin2 (f : Int → Int → Int) (wa wb : WE) : WE := fun P ρ => wa (fun d ρ1 => wb (fun e ρ2 => match d, e with | .int i, .int j => P (.int (f i j)) ρ2 | _, _ => False) ρ1) ρ
theorem bin2_go {f : Int → Int → Int} : ∀ σ H Q, tw F (wBin2 f wa wb) σ H Q → tCB (fun xs H Q => ∃ i j, xs = [.int i, .int j] ∧ Q (.int (f i j)) H) (tCons (tw F wa) (tCons (tw F wb) tNil)) σ H Q := fun σ H Q ⟨S, ρ, P, R, h, q⟩ =>
  ⟨S, ρ, _, R, h, fun d ρ1 S1 H1 x h1 e1 R1 r1 => ⟨S1, ρ1, _, R1, h1, fun e ρ2 S2 H2 y h2 e2 R2 r2 => by
    split at h2
    · cases r1; cases r2
      exact ⟨_, _, rfl, q _ _ _ _ _ h2 (e1.trans e2) R2 (.int _)⟩
    · exact h2.elim⟩⟩
theorem ae_max2 (hc : X.calm = true) (hg : Gl X "max") (hm : X.mg "max" = none) (ha : AE X a wa) (hb : AE X b wb) (he : starEach (a :: [b]) X.env = (false, eval a X.env) :: starEach [b] X.env := by rfl) (he2 : starEach (b :: []) X.env = (false, eval b X.env) :: starEach [] X.env := by rfl) (hpl : (backTo pos (starEach [b] X.env)).any (·.1) = false := by rfl) :
    AE X (.Call (.Name "max" p) [a, b] [] pos) (wBin2 (fun i j => if j > i then j else i) wa wb) :=
  ⟨fun F => PEimp (pe_callB (call_max2 hc) hg hm (by decide +kernel) (pa_cons (ha.pe F) (pa_cons (hb.pe F) pa_nil he2) he) (by decide) (by decide) he hpl) bin2_go⟩
theorem ae_min2 (hc : X.calm = true) (hg : Gl X "min") (hm : X.mg "min" = none) (ha : AE X a wa) (hb : AE X b wb) (he : starEach (a :: [b]) X.env = (false, eval a X.env) :: starEach [b] X.env := by rfl) (he2 : starEach (b :: []) X.env = (false, eval b X.env) :: starEach [] X.env := by rfl) (hpl : (backTo pos (starEach [b] X.env)).any (·.1) = false := by rfl) :
    AE X (.Call (.Name "min" p) [a, b] [] pos) (wBin2 (fun i j => if j < i then j else i) wa wb) :=
  ⟨fun F => PEimp (pe_callB (call_min2 hc) hg hm (by decide +kernel) (pa_cons (ha.pe F) (pa_cons (hb.pe F) pa_nil he2) he) (by decide) (by decide) he hpl) bin2_go⟩
/-! ### repr -/
/-- what can be shown here -/
def shwD (d : PyData) : Bool := okD d && d.showable && decide (d.shown.length ≤ sizeLine)
def reprD : W1 := fun d P => shwD d = true ∧ P (.str d.shown)
def rRepr (K : PySem.W.Frag) : List V → Hp → VK → Prop := fun xs H Q => ∃ x d, xs = [x] ∧ Dp K H x d ∧ shwD d = true ∧ Q (.str d.shown) H
theorem call_repr {k : Nat} (gd : Gd X k) : CallR X (.builtin "repr") (rRepr X.K) := by
  intro pins s σ H xs us Q I r h
  obtain ⟨x, d, rfl, hd, hs, q⟩ := h
  obtain ⟨u, rfl, ru⟩ := vals1 r
  have hs' : (okD d = true ∧ d.showable = true) ∧ d.shown.length ≤ sizeLine := by
    unfold shwD at hs
    simpa using hs
  obtain ⟨⟨h1, h2⟩, h3⟩ := hs'
  obtain ⟨as, rd⟩ := Dp.reads I d x u hd ru
  have dep : d.depth ≤ 64 := SeqAt.depth_of_shaped h1
  have un := gd.room.un
  have nod : d.hasDict = false := PyData.hasDict_of_canLay d (SeqAt.canLay_of_shaped h1)
  cases hd with
  | non => cases ru; exact PySem.P.repr_of_none ⟨.str _, H, I.tok _, ⟨_, rfl⟩, q⟩
  | bl b => cases ru; exact PySem.P.repr_of_bool ⟨.str _, H, I.tok _, ⟨_, rfl⟩, q⟩
  | int i =>
    obtain ⟨t, rfl⟩ := ru
    refine PySem.P.repr_of_int (by simpa [PyData.showable] using h2) ⟨.str _, H, I.tok _, ⟨_, rfl⟩, q⟩
  | str y =>
    obtain ⟨t, rfl⟩ := ru
    exact PySem.P.repr_of_str ⟨.str _, H, I.tok _, ⟨_, rfl⟩, q⟩ h3
  | lst ha hr =>
    cases ru
    exact repr_of_reads' rd h2 (PyData.noDict_hsm nod) gd.gd (by omega) (fun _ _ z => z) (fun h' u tk hk => ⟨.str _, H, I.kept hk, ⟨_, rfl⟩, q⟩) h3
  | tup ha hr =>
    cases ru
    exact repr_of_reads' rd h2 (PyData.noDict_hsm nod) gd.gd (by omega) (fun _ _ z => z) (fun h' u tk hk => ⟨.str _, H, I.kept hk, ⟨_, rfl⟩, q⟩) h3
theorem op1_repr {K : PySem.W.Frag} : Op1 (rRepr K) reprD := by
  intro F S σ H ρ x d P Q R r ⟨hs, h⟩ q
  have h1 : okD d = true := by
    unfold shwD at hs
    simp at hs
    exact hs.1.1
  exact ⟨x, d, rfl, R.dp K r h1, hs, q _ _ _ _ h (Le.refl S) R (.str _)⟩
theorem ae_repr {k : Nat} (gd : Gd X k) (hg : Gl X "repr") (hm : X.mg "repr" = none) (ha : AE X a w) (he : starEach (a :: []) X.env = (false, eval a X.env) :: starEach [] X.env := by rfl) (hpl : (backTo pos (starEach [] X.env)).any (·.1) = false := by rfl) :
    AE X (.Call (.Name "repr" p) [a] [] pos) (wUn reprD w) := ae_blt (call_repr gd) op1_repr hg hm (by decide +kernel) ha (by decide) (by decide) he hpl
end
end AL

set_option Elab.async false
set_option linter.all false
set_option maxRecDepth 100000
set_option maxHeartbeats 4000000
namespace AL
open PySem PySem.Spec PyProof.Rows L2
/-! ### sorted -/
abbrev sortedBy (ds : List PyData) : List PyData := ds.mergeSort (PySem.W.dataLe false fun d => d)
def srtOk (ds : List PyData) : Prop := PySem.W.AllAlike ds ∧ PySem.W.Sortable ds ∧ ∀ d ∈ ds, d.depth ≤ 64
/-- sorted(xs) of a list of data -/
def sortD : PyData → (MO → Prop) → Prop := fun d P => ∃ ds, d = .list ds ∧ okD (.list ds) = true ∧ srtOk ds ∧ P (.lst (sortedBy ds))
def rSortA (K : PySem.W.Frag) : List V → Hp → VK → Prop := fun xs H Q => ∃ a vs ds, xs = [V.ref a] ∧ SqL K H a vs ∧ DpAll K H vs ds ∧ srtOk ds ∧ ∀ p, H p = none → Q (.ref p) (upd H p (.lst (((vs.zip ds).mergeSort (PySem.W.dataLe false fun z => z.2)).map fun z => z.1)))
theorem dps_length {K : PySem.W.Frag} {H : Hp} : ∀ {vs : List V} {ds : List PyData}, DpAll K H vs ds → vs.length = ds.length
  | _, _, .nil => rfl
  | _, _, .cons _ r => congrArg (· + 1) (dps_length r)
theorem each_of_vals {α : Type} {R : V → α → Prop} : ∀ {us : List Value} {vs : List V} {ds : List α}, Vals vs us → vs.length = ds.length → PySem.W.EachIs (fun u (z : V × α) => RelV z.1 u) us (vs.zip ds)
  | _, _, [], .nil, _ => .nil
  | _, _, d :: ds, .cons r t, h => .cons r (each_of_vals (R := R) t (by simpa using h))
theorem vals_of_each {α : Type} : ∀ {us : List Value} {zs : List (V × α)}, PySem.W.EachIs (fun u (z : V × α) => RelV z.1 u) us zs → Vals (zs.map fun z => z.1) us
  | _, _, .nil => .nil
  | _, _, .cons h t => .cons h (vals_of_each t)
theorem each_reads {h : Heap} : ∀ {us : List Value} {vs : List V} {ds : List PyData} {as : List Addr}, ReadsAll h us ds as → vs.length = ds.length → PySem.W.EachIs (fun u (z : V × PyData) => ∃ as, Reads h u z.2 as) us (vs.zip ds)
  | _, [], [], _, .nil, _ => .nil
  | _, v :: vs, _ :: ds, _, .cons r t, hl => .cons ⟨_, r⟩ (each_reads t (by simpa using hl))
theorem zip_snd {α β : Type} : ∀ {vs : List α} {ds : List β}, vs.length = ds.length → (vs.zip ds).map (fun z => z.2) = ds
  | [], [], _ => rfl
  | _ :: vs, d :: ds, h => by rw [List.zip_cons_cons, List.map_cons, zip_snd (by simpa using h)]
section
variable {X : Cx}
theorem call_sortA {k : Nat} (gd : Gd X k) : CallR X (.builtin "sorted") (rSortA X.K) := by
  intro pins s σ H xs us Q I r h
  obtain ⟨a, vs, ds, rfl, ha, hd, ⟨hal, hk, hdep⟩, q⟩ := h
  obtain ⟨u, rfl, ru⟩ := vals1 r
  cases ru
  obtain ⟨its, rv, pl, hz⟩ := I.list ha
  have hlv := rv.length
  have hld := dps_length hd
  obtain ⟨as, hr⟩ := Dp.readsAll I ds vs its hd rv
  have un := gd.room.un
  refine PySem.W.sorted_data (R := fun u (z : V × PyData) => RelV z.1 u) (enc := fun z => z.2) (bs := vs.zip ds) pl.isList (each_of_vals (R := fun _ _ => True) rv hld) (each_reads hr hld) (by rw [zip_snd hld]; exact hal) (by rw [zip_snd hld]; exact hk) (by rw [List.length_zip]; omega) (fun b hb => ?_) fun out ho eo => ?_
  · have := hdep b.2 (List.of_mem_zip hb).2
    show X.A.units + 2 + b.2.depth < cLine
    omega
  · obtain ⟨e, he⟩ := PyProof.Rows.sortedAll_at s.heap its out.toArray
    have hlen : (((vs.zip ds).mergeSort (PySem.W.dataLe false fun z => z.2)).map fun z => z.1).length ≤ sizeLine := by
      rw [List.length_map, List.length_mergeSort, List.length_zip]; omega
    have hp : H (s.heap.objs.size + 1) = none := I.hok.fresh (by omega)
    exact ⟨.ref (s.heap.objs.size + 1), _, I.laid (t' := s.toks) (fun b o e => PyProof.Rows.sortedAll_old e) (by omega) (show ObjOk X.prog X.w _ _ _ (.lst _) from ⟨hlen, out, e, vals_of_each eo, he⟩), rfl, q _ hp⟩
theorem rps_zip {S : Hp} : ∀ {zs : List (V × PyData)}, (∀ z ∈ zs, Rp S z.1 z.2) → RpAll S (zs.map fun z => z.1) (zs.map fun z => z.2)
  | [], _ => .nil
  | z :: zs, h => .cons (h z List.mem_cons_self) (rps_zip fun y hy => h y (List.mem_cons_of_mem _ hy))
theorem rps_mem {S : Hp} : ∀ {vs : List V} {ds : List PyData}, RpAll S vs ds → ∀ z ∈ vs.zip ds, Rp S z.1 z.2
  | _, _, .nil, z, hz => by cases hz
  | _, _, .cons h t, z, hz => by
    rw [List.zip_cons_cons] at hz
    rcases List.mem_cons.mp hz with rfl | hz
    · exact h
    · exact rps_mem t z hz
theorem sort_snd {vs : List V} {ds : List PyData} (h : vs.length = ds.length) : ((vs.zip ds).mergeSort (PySem.W.dataLe false fun z => z.2)).map (fun z => z.2) = sortedBy ds := by
  have e := List.map_mergeSort (r := PySem.W.dataLe false fun z : V × PyData => z.2) (s := PySem.W.dataLe false fun d : PyData => d) (f := fun z : V × PyData => z.2) (l := vs.zip ds) (fun a _ b _ => rfl)
  rw [zip_snd h] at e
  exact e
theorem rps_sorted {S : Hp} {vs : List V} {ds : List PyData} (r : RpAll S vs ds) : RpAll S (((vs.zip ds).mergeSort (PySem.W.dataLe false fun z => z.2)).map fun z => z.1) (sortedBy ds) := by
  rw [← sort_snd (rps_length r)]
  exact rps_zip fun z hz => rps_mem r z (List.mem_mergeSort.mp hz)
theorem opO_sort {K : PySem.W.Frag} : OpO (rSortA K) sortD := by
  intro F S σ H ρ x d P Q R r ⟨ds, hd, hok, hs, h⟩ q
  subst hd
  have hdp := R.dp K r hok
  cases r with
  | @lst a vs _ ha ra =>
    refine ⟨a, vs, ds, rfl, .inl (.inl (R.sub _ _ ha)), ?_, hs, fun p hp => q _ _ _ _ h (Le.refl S) (new_lst R hp (rps_sorted ra))⟩
    have hc : PyData.canLayAll0 ds = true := by simpa only [PyData.canLay0] using SeqAt.canLay_of_shaped hok
    exact rps_dp K (rps_mono (Le.of R.sub) ra) hc
theorem ao_sorted {k : Nat} {a : Expr} {p pos : Pos} {w : WE} (gd : Gd X k) (hg : Gl X "sorted") (hm : X.mg "sorted" = none) (ha : AE X a w) (he : starEach (a :: []) X.env = (false, eval a X.env) :: starEach [] X.env := by rfl) (hpl : (backTo pos (starEach [] X.env)).any (·.1) = false := by rfl) :
    AO X (.Call (.Name "sorted" p) [a] [] pos) (wUnO sortD w) := ao_blt (call_sortA gd) opO_sort hg hm (by decide +kernel) ha (by decide) (by decide) he hpl
end
/-! ### dicts: keys -/
theorem rel_addTup {F S H : Hp} {σ : L2.St} {ρ : AEnv} {b : Addr} {xs : List V} (R : Rel F S σ H ρ) (h : H b = some (.tup xs)) : ∃ S', Le S S' ∧ Rel F S' σ H ρ ∧ S' b = some (.tup xs) := by
  cases q : S b with
  | some u =>
    have e := R.sub b u q
    rw [h] at e
    cases e
    exact ⟨S, Le.refl S, R, q⟩
  | none =>
    obtain ⟨fp, R⟩ := R
    have R := R.trunc
    generalize hfp : (fun i => if i < ρ.length then fp i else []) = fp at R
    have nf : ∀ i, b ∉ fp i := fun i hi => by
      by_cases hl : i < ρ.length
      · exact slot_kind (R.slot i _ (List.getElem?_eq_getElem hl)) b hi xs h
      · rw [← hfp] at hi; simp [hl] at hi
    have hF : F b = none := by
      cases z : F b with
      | none => rfl
      | some u =>
        have e := R.frm b u z
        rw [h] at e
        cases e
        exact absurd z (R.apt.2 b xs)
    exact ⟨upd S b (.tup xs), le_new q, rel_frz R q hF h nf, upd_same⟩
theorem rps_key {S : Hp} : ∀ (k : List Key), RpAll S (k.map kV) (k.map keyD)
  | [] => .nil
  | .inl i :: k => .cons (.int i) (rps_key k)
  | .inr x :: k => .cons (.str x) (rps_key k)
/-- the keys of a dict with tuple keys, as data -/
theorem keys_data {F H : Hp} {σ : L2.St} {ρ : AEnv} : ∀ {kvs : List (List Key × V)} {bs : List Addr} {S : Hp} {ds : List (PyData × PyData)}, Rel F S σ H ρ → IsKeys H kvs bs → RpT S kvs ds → ∃ S', Le S S' ∧ Rel F S' σ H ρ ∧ RpAll S' (bs.map V.ref) (ds.map fun z => z.1)
  | _, _, S, _, R, .nil, .nil => ⟨S, Le.refl S, R, .nil⟩
  | _, _, S, _, R, .cons h t, .cons r rt => by
    obtain ⟨S1, e1, R1, h1⟩ := rel_addTup R h
    obtain ⟨S2, e2, R2, r2⟩ := keys_data R1 t (rpt_mono e1 rt)
    exact ⟨S2, e1.trans e2, R2, .cons (.tup (e2.tup h1) (rps_key _)) r2⟩
/-! ### times -/
theorem tuple_mul_same (l : Addr) (items : Array Value) (n : Nat) (dd : Option Addr) (sl : Array (Option Value)) (x : Int) (u : Tok) (c0 : (decide (x < -(2 ^ 63)) || decide (x ≥ 2 ^ 63)) = false) (c1 : (items.isEmpty || x == 1) = true) :
    Meets (Builtin.«tuple.__mul__» ⟨[.ref l, .int x u], []⟩) (fun _ R s => s.heap.get? l = some { cls := .type "tuple", dict := dd, data := .seq items n, slots := sl } ∧ R (.ok (.ret (Value.ref l))) s) :=
  .of_wp fun prog w A R s h => by
    obtain ⟨hp, g, d, tk, os⟩ := s
    obtain ⟨hl, h⟩ := h
    have f1 := AutoSeq1.idx_int
    wp_walk using wpAny_loadPart' hl
    refine wpAny_ite_false (decide_eq_false (by rw [c0]; exact Bool.false_ne_true)) ?_
    wp_walk using wpAny_loadPart' hl
    exact ⟨_, rfl, h⟩
theorem tuple_mul_none (l : Addr) (items : Array Value) (n : Nat) (dd : Option Addr) (sl : Array (Option Value)) (x : Int) (u : Tok) (c0 : (decide (x < -(2 ^ 63)) || decide (x ≥ 2 ^ 63)) = false) (c1 : (items.isEmpty || x == 1) = false) (c2 : (decide (x ≤ 0) || items.isEmpty) = true) :
    Meets (Builtin.«tuple.__mul__» ⟨[.ref l, .int x u], []⟩) (fun _ R s => s.heap.get? l = some { cls := .type "tuple", dict := dd, data := .seq items n, slots := sl } ∧
      R (.ok (.ret (Value.ref s.heap.objs.size))) { s with heap := s.heap.push { cls := Value.type "tuple", data := Data.seq (#[] : Array Value) }, toks := s.toks }) :=
  .of_wp fun prog w A R s h => by
    obtain ⟨hp, g, d, tk, os⟩ := s
    obtain ⟨hl, h⟩ := h
    have f1 := AutoSeq1.idx_int
    wp_walk using wpAny_loadPart' hl
    refine wpAny_ite_false (decide_eq_false (by rw [c0]; exact Bool.false_ne_true)) ?_
    wp_walk using wpAny_loadPart' hl
    exact ⟨_, rfl, h⟩
/-- x * y: ints (one of them small), a list or a tuple by a number -/
def mulD : W2 := fun d e P => match d, e with
  | .int i, .int j => ((-(2 ^ 64) < i ∧ i < 2 ^ 64) ∨ (-(2 ^ 64) < j ∧ j < 2 ^ 64)) ∧ P (.int (i * j))
  | .list xs, .int k => (-(2 ^ 63) ≤ k ∧ k < 2 ^ 63 ∧ xs.length * k.toNat ≤ sizeLine) ∧ P (.list (List.replicate k.toNat xs).flatten)
  | .tuple xs, .int k => (-1000 ≤ k ∧ k ≤ 1000 ∧ xs.length ≤ 1000) ∧ P (.tuple (List.replicate k.toNat xs).flatten)
  | _, _ => False
/-- a tuple times an int, one or none -/
def rRepS (K : PySem.W.Frag) : R2 := fun x y H Q => ∃ l k xs, x = .ref l ∧ y = .int k ∧ SqT K H l xs ∧ -1000 ≤ k ∧ k ≤ 1000 ∧ ((xs = [] ∨ k = 1) ∧ Q (.ref l) H ∨ (xs ≠ [] ∧ k ≤ 0) ∧ ∀ p, H p = none → Q (.ref p) (upd H p (.tup [])))
theorem op_repS {X : Cx} : OpR X (binaryOp .Mult) (rRepS X.K) := by
  intro pins s σ H x y v u Q I rx ry h
  obtain ⟨l, k, xs, rfl, rfl, hT, hk1, hk2, q⟩ := h
  cases rx
  obtain ⟨t, rfl⟩ := ry
  obtain ⟨its, r, ⟨⟨cls, dd, data, sl⟩, ho, hc, n, hd⟩, hs⟩ := I.tuple hT
  simp only at hc hd
  subst hc hd
  have hle : its.length = xs.length := r.length.symm
  have c0 : (decide (k < -(2 ^ 63)) || decide (k ≥ 2 ^ 63)) = false := by
    rw [decide_eq_false (by omega), decide_eq_false (by omega)] <;> rfl
  have em : its.toArray.isEmpty = decide (xs = []) := by
    cases its with
    | nil =>
      cases xs with
      | nil => rfl
      | cons a b => simp at hle
    | cons a b =>
      cases xs with
      | nil => simp at hle
      | cons c d => simp
  refine wpAny_binaryOp_repeat_ref (T := "tuple") (U := "int") (by decide) ⟨_, ho, rfl⟩ (fun s' => typeIs_int s' k t) noFill_tuple_mul F.fills_int_mul F.slot_int_rmul repeat_tuple F.slot_int_index.lookup
    (call_meets F.slot_int_rmul (typeIs_int s k t) F.entry_int_rmul (F.args_int_rmul_2 _ _) (int_rmul_tuple k t l its.toArray n dd sl) ⟨ho, rfl, ⟨_, ho, rfl⟩, ?_⟩)
  rcases q with ⟨hx, q⟩ | ⟨⟨hx, hk⟩, q⟩
  · refine call_meets F.slot_tuple_mul ⟨_, ho, rfl⟩ F.entry_tuple_mul (F.args_tuple_mul_2 _ _) (tuple_mul_same l its.toArray n dd sl k t c0 ?_) ⟨ho, .ref l, H, I, rfl, q⟩
    rw [em]
    rcases hx with rfl | rfl <;> simp
  · refine call_meets F.slot_tuple_mul ⟨_, ho, rfl⟩ F.entry_tuple_mul (F.args_tuple_mul_2 _ _) (tuple_mul_none l its.toArray n dd sl k t c0 ?_ ?_) ⟨ho, ?_⟩
    · rw [em, decide_eq_false hx, Bool.false_or]
      exact beq_eq_false_iff_ne.mpr (by omega)
    · rw [decide_eq_true hk, Bool.true_or]
    · refine ⟨.ref s.heap.objs.size, _, I.laid (t' := s.toks) (o := .tup []) (fun b ob q => Heap.get?_push_of_some _ q) (Nat.le_refl _) ?_, rfl, q _ (I.hok.fresh (Nat.le_refl _))⟩
      exact ⟨Nat.zero_le _, [], .nil, IsTup.new _ _⟩
theorem rps_rep {S : Hp} {vs : List V} {ds : List PyData} (r : RpAll S vs ds) : ∀ n, RpAll S (List.replicate n vs).flatten (List.replicate n ds).flatten
  | 0 => .nil
  | n + 1 => by
    rw [List.replicate_succ, List.replicate_succ, List.flatten_cons, List.flatten_cons]
    exact rps_append r (rps_rep r n)
def rMulAll (K : PySem.W.Frag) : R2 := fun x y H Q => rI CMul (fun i j => .int (i * j)) x y H Q ∨ rRepT K x y H Q ∨ rRepS K x y H Q ∨ rRep x y H Q
theorem op2_mul {K : PySem.W.Frag} : Op2 (rMulAll K) mulD := by
  intro F S σ H ρ x y d e P Q R rx ry h q
  unfold mulD at h
  split at h
  · cases rx; cases ry
    exact .inl ⟨_, _, rfl, rfl, h.1, q _ _ _ _ h.2 (Le.refl S) R (.int _)⟩
  · rename_i xs k
    cases rx with
    | @lst a vs _ ha ra =>
      cases ry
      exact .inr (.inr (.inr ⟨a, k, vs, rfl, rfl, R.sub _ _ ha, h.1.1, h.1.2.1, by rw [rps_length ra]; exact h.1.2.2, fun p hp =>
        q _ _ _ _ h.2 (le_new (none_sub R.sub hp)) (R.new hp _) (.lst upd_same (rps_mono (le_new (none_sub R.sub hp)) (rps_rep ra _)))⟩))
  · rename_i xs k
    obtain ⟨⟨h1, h2, h3⟩, h⟩ := h
    cases rx with
    | @tup a vs _ ha ra =>
      cases ry
      have hl := rps_length ra
      have sq : SqT K H a vs := .inl (.inl (R.sub _ _ ha))
      by_cases hx : vs = []
      · subst hx
        cases ra
        refine .inr (.inr (.inl ⟨a, k, [], rfl, rfl, sq, h1, h2, .inl ⟨.inl rfl, q _ _ _ _ h (Le.refl S) R (.tup ha ?_)⟩⟩))
        have : (List.replicate k.toNat ([] : List PyData)).flatten = [] := by simp
        rw [this]
        exact .nil
      · by_cases h11 : k = 1
        · subst h11
          refine .inr (.inr (.inl ⟨a, 1, vs, rfl, rfl, sq, h1, h2, .inl ⟨.inr rfl, q _ _ _ _ h (Le.refl S) R (.tup ha ?_)⟩⟩))
          have : (List.replicate (Int.toNat 1) xs).flatten = xs := by simp
          rw [this]
          exact ra
        · by_cases h0 : k ≤ 0
          · refine .inr (.inr (.inl ⟨a, k, vs, rfl, rfl, sq, h1, h2, .inr ⟨⟨hx, h0⟩, fun p hp => q _ _ _ _ h (le_new (none_sub R.sub hp)) (R.new hp _) (.tup upd_same ?_)⟩⟩))
            have : k.toNat = 0 := by omega
            rw [this]
            exact .nil
          · exact .inr (.inl ⟨a, k, vs, rfl, rfl, sq, hx, by omega, h2, by omega, fun p hp => q _ _ _ _ h (le_new (none_sub R.sub hp)) (R.new hp _) (.tup upd_same (rps_mono (le_new (none_sub R.sub hp)) (rps_rep ra _)))⟩)
  · exact h.elim
theorem ae_mul {X : Cx} {a b : Expr} {pos : Pos} {wa wb : WE} (ha : AE X a wa) (hb : AE X b wb) : AE X (.BinOp a .Mult b pos) (wBin mulD wa wb) :=
  ae_bin (op_or op_mul (op_or op_repT (op_or op_repS op_rep))) op2_mul ha hb
end AL

set_option Elab.async false
set_option linter.all false
set_option maxRecDepth 100000
set_option maxHeartbeats 4000000
namespace AL
open PySem PySem.Spec PyProof.Rows L2
/-! ### names that own a list -/
section
variable {F S H : Hp} {σ : L2.St} {ρ : AEnv}
theorem Rel.lst (R : Rel F S σ H ρ) {i : Nat} {xs : List PyData} (h : ρ[i]? = some (.own (.lst xs))) : ∃ a vs, σ[i]? = some (some (.ref a)) ∧ H a = some (.lst vs) ∧ RpAll S vs xs := by
  obtain ⟨fp, R⟩ := R
  obtain ⟨a, hv, hf, vs, hH, r⟩ := R.own h
  exact ⟨a, vs, hv, hH, r⟩
/-- what an owned thing holds is changed -/
theorem RelW.mut1 {fp : Nat → List Addr} (R : RelW F S σ H ρ fp) {i : Nat} {a : Addr} {o : HO} {m : MO} (hv : σ[i]? = some (some (.ref a))) (hf : fp i = [a]) (hi : i < ρ.length) (ow : OwnAt S (upd H a o) a m [a]) : Rel F S σ (upd H a o) (ρ.set i (.own m)) := by
  have oa := R.out i a (by rw [hf]; exact List.mem_cons_self)
  refine ⟨fp, ?_⟩
  have oth : ∀ j b, b ∈ fp j → j ≠ i → b ≠ a := fun j b hb hj z => hj (R.dis j i b hb (by rw [hf, z]; exact List.mem_cons_self))
  exact {
    len := by rw [List.length_set]; exact R.len
    slot := fun j av hj => by
      by_cases e : j = i
      · subst e
        rw [List.getElem?_set_self hi] at hj
        cases hj
        exact ⟨a, by rw [hv]; rfl, by rw [hf]; exact ow⟩
      · rw [List.getElem?_set_ne (Ne.symm e)] at hj
        exact slot_keep (Le.refl S) (R.slot j av hj) fun b hb => upd_ne (oth j b hb e)
    nd := R.nd
    dis := R.dis
    out := fun j b hb => by
      by_cases e : b = a
      · rw [e, upd_same]
        exact ⟨oa.1, oa.2.1, (fun z => by cases z)⟩
      · rw [upd_ne e]; exact R.out j b hb
    sub := fun b u hb => by rw [upd_ne (ne_of_none hb oa.1)]; exact R.sub _ _ hb
    frm := fun b u hb => by rw [upd_ne (ne_of_none hb oa.2.1)]; exact R.frm _ _ hb
    apt := R.apt }
theorem Rel.mutLst (R : Rel F S σ H ρ) {i : Nat} {xs ys : List PyData} {a : Addr} {us : List V} (h : ρ[i]? = some (.own (.lst xs))) (hv : σ[i]? = some (some (.ref a))) (r : RpAll S us ys) : Rel F S σ (upd H a (.lst us)) (ρ.set i (.own (.lst ys))) := by
  obtain ⟨fp, R⟩ := R
  obtain ⟨a', hv', hf, vs, hH, _⟩ := R.own h
  rw [hv] at hv'
  cases hv'
  exact R.mut1 hv hf (lt_of_some h) ⟨rfl, us, upd_same, r⟩
theorem Rel.dic (R : Rel F S σ H ρ) {i : Nat} {d : PyData} (h : ρ[i]? = some (.own (.dic d))) : ∃ a o, σ[i]? = some (some (.ref a)) ∧ H a = some o ∧ DicH S o d := by
  obtain ⟨fp, R⟩ := R
  obtain ⟨a, hv, hf, o, hH, r⟩ := R.own h
  exact ⟨a, o, hv, hH, r⟩
theorem Rel.mutDic (R : Rel F S σ H ρ) {i : Nat} {d d' : PyData} {a : Addr} {o : HO} (h : ρ[i]? = some (.own (.dic d))) (hv : σ[i]? = some (some (.ref a))) (r : DicH S o d') : Rel F S σ (upd H a o) (ρ.set i (.own (.dic d'))) := by
  obtain ⟨fp, R⟩ := R
  obtain ⟨a', hv', hf, u, hH, _⟩ := R.own h
  rw [hv] at hv'
  cases hv'
  exact R.mut1 hv hf (lt_of_some h) ⟨rfl, o, upd_same, r⟩
end
section
variable {X : Cx} {F : Hp} {e a b : Expr} {es : List Expr} {p pos apos : Pos} {x : Str} {w wa wb : WE} {i : Nat}
/-- x.append(e) -/
def wApp (i : Nat) (w : WE) : WS := fun k ρ => (∃ xs, ρ[i]? = some (.own (.lst xs))) ∧ w (fun d ρ' => ∃ xs, ρ'[i]? = some (.own (.lst xs)) ∧ xs.length < sizeLine ∧ k.nx (ρ'.set i (.own (.lst (xs ++ [d]))))) ρ
theorem as_append (hN : X.N[i]? = some x) (hv : Vis X.env.scope x) (h : AE X e w) (hd : (x == ("__debug__" : Str)) = false := by decide) (hcd : (x == ("__classdict__" : Str)) = false := by decide)
    (hbase : attributeBase (.Name x p) "append" X.env (eval (.Name x p) X.env) = eval (.Name x p) X.env := by rfl)
    (hfew : ((backTo pos (starEach (e :: []) X.env)).all (fun x => !x.1) && (backToKw pos (keywordEach [] X.env)).all (fun x => x.1.isSome) && decide ((e :: []).length + ([] : List Keyword).length + (if ([] : List Keyword).isEmpty then 0 else 1) < 30)) = true := by rfl)
    (hline : (apos.endLine == pos.line) = true := by rfl) (hs : starEach (e :: []) X.env = (false, eval e X.env) :: starEach [] X.env := by rfl) (hplain : (backTo pos (starEach [] X.env)).any (·.1) = false := by rfl) {spos : Pos}
    (hsw : swapsWith (.Call (.Attribute (.Name x p) "append" apos) [e] [] pos) none spos.line X.env = pure false := by rfl) :
    AS X (.Expr (.Call (.Attribute (.Name x p) "append" apos) [e] [] pos) spos) (wApp i w) :=
  ⟨fun F => PSimp (ps_expr (pe_bm PySem.F.plainAttrs_list PySem.F.slot_list_append PySem.F.type_list_append mt_append (pe_var hN hv hd hcd) (pa_cons (h.pe F) pa_nil hs) hbase hfew hline hs hplain) hsw) fun D σ H ⟨S, ρ, k, R, ⟨⟨xs0, h0⟩, hw⟩, q, _⟩ => by
    obtain ⟨a, vs0, hσ, hH, r0⟩ := R.lst h0
    refine ⟨_, hσ, .inl ⟨rfl, vs0, .inl (.inl hH)⟩, S, ρ, _, R, hw, fun d ρ' S' H' v hP e1 R1 r1 => ?_⟩
    obtain ⟨xs, hx, hl, hP⟩ := hP
    obtain ⟨a', vs, hσ', hH', r'⟩ := R1.lst hx
    rw [hσ] at hσ'
    cases hσ'
    exact ⟨a, vs, v, rfl, rfl, hH', by rw [rps_length r']; exact hl, q _ _ _ _ hP e1 (R1.mutLst hx hσ (rps_append r' (.cons r1 .nil)))⟩⟩
/-- x.pop() -/
def wPop (i : Nat) : WE := fun P ρ => ∃ xs d, ρ[i]? = some (.own (.lst (xs ++ [d]))) ∧ P d (ρ.set i (.own (.lst xs)))
theorem ae_pop (hN : X.N[i]? = some x) (hv : Vis X.env.scope x) (hd : (x == ("__debug__" : Str)) = false := by decide) (hcd : (x == ("__classdict__" : Str)) = false := by decide)
    (hbase : attributeBase (.Name x p) "pop" X.env (eval (.Name x p) X.env) = eval (.Name x p) X.env := by rfl) (hline : (apos.endLine == pos.line) = true := by rfl) :
    AE X (.Call (.Attribute (.Name x p) "pop" apos) [] [] pos) (wPop i) :=
  ⟨fun F => PEimp (pe_bm0 PySem.F.plainAttrs_list PySem.F.slot_list_pop PySem.F.type_list_pop mt_pop (pe_var hN hv hd hcd) hbase hline) fun σ H Q ⟨S, ρ, P, R, ⟨xs, d, h0, hP⟩, q⟩ => by
    obtain ⟨a, vs, hσ, hH, r⟩ := R.lst h0
    have hl := rps_length r
    obtain ⟨v, hv, rv⟩ := rps_getd (i := xs.length) (d := d) r (by simp)
    have hlast : vs[vs.length - 1]? = some v := by
      rw [hl, List.length_append]
      exact hv
    have rd : RpAll S vs.dropLast xs := by
      have := rps_take xs.length r
      rw [List.take_left] at this
      rw [List.dropLast_eq_take, hl, List.length_append]
      exact this
    exact ⟨_, hσ, .inl ⟨rfl, vs, .inl (.inl hH)⟩, a, vs, v, rfl, rfl, hH, hlast, q _ _ _ _ _ hP (Le.refl S) (R.mutLst h0 hσ rd) rv⟩⟩
theorem rps_erase {S : Hp} : ∀ {vs : List V} {ds : List PyData} (k : Nat), RpAll S vs ds → RpAll S (vs.eraseIdx k) (ds.eraseIdx k)
  | _, _, _, .nil => .nil
  | _, _, 0, .cons _ t => t
  | _, _, k + 1, .cons h t => .cons h (rps_erase k t)
theorem rps_set {S : Hp} {x : V} {y : PyData} (r : Rp S x y) : ∀ {vs : List V} {ds : List PyData} (k : Nat), RpAll S vs ds → RpAll S (vs.set k x) (ds.set k y)
  | _, _, _, .nil => .nil
  | _, _, 0, .cons _ t => .cons r t
  | _, _, k + 1, .cons h t => .cons h (rps_set r k t)
/-- x.pop(e) -/
def wPopAt (i : Nat) (w : WE) : WE := fun P ρ => (∃ xs, ρ[i]? = some (.own (.lst xs))) ∧ w (fun d ρ' => ∃ (xs : List PyData) (n : Nat) (y : PyData), ρ'[i]? = some (.own (.lst xs)) ∧ d = .int n ∧ xs[n]? = some y ∧ n < 2 ^ 62 ∧ P y (ρ'.set i (.own (.lst (xs.eraseIdx n))))) ρ
theorem ae_popAt (hN : X.N[i]? = some x) (hv : Vis X.env.scope x) (h : AE X e w) (hd : (x == ("__debug__" : Str)) = false := by decide) (hcd : (x == ("__classdict__" : Str)) = false := by decide)
    (hbase : attributeBase (.Name x p) "pop" X.env (eval (.Name x p) X.env) = eval (.Name x p) X.env := by rfl)
    (hfew : ((backTo pos (starEach (e :: []) X.env)).all (fun x => !x.1) && (backToKw pos (keywordEach [] X.env)).all (fun x => x.1.isSome) && decide ((e :: []).length + ([] : List Keyword).length + (if ([] : List Keyword).isEmpty then 0 else 1) < 30)) = true := by rfl)
    (hline : (apos.endLine == pos.line) = true := by rfl) (hs : starEach (e :: []) X.env = (false, eval e X.env) :: starEach [] X.env := by rfl) (hplain : (backTo pos (starEach [] X.env)).any (·.1) = false := by rfl) :
    AE X (.Call (.Attribute (.Name x p) "pop" apos) [e] [] pos) (wPopAt i w) :=
  ⟨fun F => PEimp (pe_bm PySem.F.plainAttrs_list PySem.F.slot_list_pop PySem.F.type_list_pop mt_popAt (pe_var hN hv hd hcd) (pa_cons (h.pe F) pa_nil hs) hbase hfew hline hs hplain) fun σ H Q ⟨S, ρ, P, R, ⟨⟨xs0, h0⟩, hw⟩, q⟩ => by
    obtain ⟨a, vs0, hσ, hH, r0⟩ := R.lst h0
    refine ⟨_, hσ, .inl ⟨rfl, vs0, .inl (.inl hH)⟩, S, ρ, _, R, hw, fun d ρ' S' H' v hP e1 R1 r1 => ?_⟩
    obtain ⟨xs, n, y, hx, hd, hy, hn, hP⟩ := hP
    subst hd
    cases r1
    obtain ⟨a', vs, hσ', hH', r'⟩ := R1.lst hx
    rw [hσ] at hσ'
    cases hσ'
    obtain ⟨u, hu, ru⟩ := rps_getd r' hy
    have hlt := (List.getElem?_eq_some_iff.mp hu).1
    exact ⟨a, vs, n, n, u, rfl, rfl, hH', by omega, by omega, by rw [seqIndex_of (by omega) (by omega)]; simp, hu, q _ _ _ _ _ hP e1 (R1.mutLst hx hσ (rps_erase n r')) ru⟩⟩
/-- x[j] = e -/
def wSetIx (i : Nat) (w wj : WE) : WS := fun k ρ => w (fun d ρ1 => wj (fun j ρ2 => ∃ xs n m, ρ2[i]? = some (.own (.lst xs)) ∧ j = .int n ∧ ixN xs.length n = some m ∧ k.nx (ρ2.set i (.own (.lst (xs.set m d))))) ρ1) ρ
/-! ### reading a name that owns a list -/
def wOwnL (i : Nat) (f : List PyData → (PyData → Prop) → Prop) : WE := fun P ρ => ∃ xs, ρ[i]? = some (.own (.lst xs)) ∧ f xs (fun d => P d ρ)
def wLenV (i : Nat) : WE := wOwnL i fun xs P => P (.int xs.length)
theorem ae_lenV {pn : Pos} (hN : X.N[i]? = some x) (hv : Vis X.env.scope x) (hg : Gl X "len") (hm : X.mg "len" = none) (hd : (x == ("__debug__" : Str)) = false := by decide) (hcd : (x == ("__classdict__" : Str)) = false := by decide)
    (he : starEach (.Name x pn :: []) X.env = (false, eval (.Name x pn) X.env) :: starEach [] X.env := by rfl) (hpl : (backTo pos (starEach [] X.env)).any (·.1) = false := by rfl) : AE X (.Call (.Name "len" p) [.Name x pn] [] pos) (wLenV i) :=
  ⟨fun F => PEimp (pe_callB call_len_seq hg hm PySem.boot_len (pa_cons (pe_var hN hv hd hcd) pa_nil he) (by decide) (by decide) he hpl) fun σ H Q ⟨S, ρ, P, R, ⟨xs, h0, hP⟩, q⟩ => by
    obtain ⟨a, vs, hσ, hH, r⟩ := R.lst h0
    exact ⟨_, hσ, a, vs, rfl, .inl (.inl (.inl hH)), by rw [rps_length r]; exact q _ _ _ _ _ hP (Le.refl S) R (.int _)⟩⟩
def wIxV (i : Nat) (w : WE) : WE := fun P ρ => w (fun j ρ' => ∃ xs n y, ρ'[i]? = some (.own (.lst xs)) ∧ j = .int n ∧ atI xs n = some y ∧ P y ρ') ρ
theorem ae_ixV {pn : Pos} (hN : X.N[i]? = some x) (hv : Vis X.env.scope x) (h : AE X e w) (hs : PlainIx e) (h0 : True := trivial) (hd : (x == ("__debug__" : Str)) = false := by decide) (hcd : (x == ("__classdict__" : Str)) = false := by decide) :
    AE X (.Subscript (.Name x pn) e pos) (fun P ρ => (∃ xs, ρ[i]? = some (.own (.lst xs))) ∧ wIxV i w P ρ) :=
  ⟨fun F => PEimp (pe_ix ix_list (pe_var hN hv hd hcd) (h.pe F) hs) fun σ H Q ⟨S, ρ, P, R, ⟨⟨xs0, h0⟩, hw⟩, q⟩ => by
    obtain ⟨a, vs0, hσ, hH, r0⟩ := R.lst h0
    refine ⟨_, hσ, S, ρ, _, R, hw, fun j ρ' S' H' v hP e1 R1 r1 => ?_⟩
    obtain ⟨xs, n, y, hx, hj, hy, hP⟩ := hP
    subst hj
    cases r1
    obtain ⟨a', vs, hσ', hH', r'⟩ := R1.lst hx
    rw [hσ] at hσ'
    cases hσ'
    obtain ⟨u, hu, ru⟩ := rps_at r' hy
    exact ⟨a, vs, n, u, rfl, rfl, .inl (.inl hH'), hu, q _ _ _ _ _ hP e1 R1 ru⟩⟩
def wTupV (i : Nat) : WE := wOwnL i fun xs P => P (.tuple xs)
theorem ae_tupV {pn : Pos} (hN : X.N[i]? = some x) (hv : Vis X.env.scope x) (hg : Gl X "tuple") (hm : X.mg "tuple" = none) (hd : (x == ("__debug__" : Str)) = false := by decide) (hcd : (x == ("__classdict__" : Str)) = false := by decide)
    (he : starEach (.Name x pn :: []) X.env = (false, eval (.Name x pn) X.env) :: starEach [] X.env := by rfl) (hpl : (backTo pos (starEach [] X.env)).any (·.1) = false := by rfl) : AE X (.Call (.Name "tuple" p) [.Name x pn] [] pos) (wTupV i) :=
  ⟨fun F => PEimp (pe_callTy call_tuple_of hg hm boot_tuple (pa_cons (pe_var hN hv hd hcd) pa_nil he) (by decide) (by decide) he hpl) fun σ H Q ⟨S, ρ, P, R, ⟨xs, h0, hP⟩, q⟩ => by
    obtain ⟨a, vs, hσ, hH, r⟩ := R.lst h0
    exact ⟨_, hσ, a, vs, rfl, .inl ⟨.inl (.inl hH), fun l hl => q _ _ _ _ _ hP (le_new (none_sub R.sub hl)) (R.new hl _) (.tup upd_same (rps_mono (le_new (none_sub R.sub hl)) r))⟩⟩⟩
def wRevV (i : Nat) : WE := wOwnL i fun xs P => P (.list xs.reverse)
theorem ae_revV {pn p1 p2 p3 : Pos} {kk : Nat} (hN : X.N[i]? = some x) (hv : Vis X.env.scope x) (hd : (x == ("__debug__" : Str)) = false := by decide) (hcd : (x == ("__classdict__" : Str)) = false := by decide) :
    AE X (.Subscript (.Name x pn) (.Slice none none (some (.UnaryOp .USub (.Constant (.int 1) kk p1) p2)) p3) pos) (wRevV i) :=
  ⟨fun F => PEimp (pe_revL (pe_var hN hv hd hcd)) fun σ H Q ⟨S, ρ, P, R, ⟨xs, h0, hP⟩, q⟩ => by
    obtain ⟨a, vs, hσ, hH, r⟩ := R.lst h0
    exact ⟨_, hσ, a, vs, rfl, .inl (.inl hH), fun l hl => q _ _ _ _ _ hP (le_new (none_sub R.sub hl)) (R.new hl _) (.lst upd_same (rps_mono (le_new (none_sub R.sub hl)) (rps_rev r)))⟩⟩
/-- x == e, x != e of an owned list -/
def wEqV (neg : Bool) (i : Nat) (w : WE) : WE := fun P ρ => (∃ xs, ρ[i]? = some (.own (.lst xs))) ∧ w (fun d ρ' => ∃ xs, ρ'[i]? = some (.own (.lst xs)) ∧ okD (.list xs) = true ∧ okD d = true ∧ P (.bool (xor neg (PyData.eqv (.list xs) d))) ρ') ρ
theorem dp_own {K : PySem.W.Frag} {S H : Hp} {a : Addr} {vs : List V} {xs : List PyData} (hs : Same S H) (hH : H a = some (.lst vs)) (r : RpAll S vs xs) (ok : okD (.list xs) = true) : Dp K H (.ref a) (.list xs) :=
  .lst (.inl (.inl hH)) (rps_dp K (rps_mono (Le.of hs) r) (by simpa only [PyData.canLay0] using SeqAt.canLay_of_shaped ok))
theorem ae_eqV {pn : Pos} (hu : X.A.units + 64 < cLine) (hN : X.N[i]? = some x) (hv : Vis X.env.scope x) (h : AE X e w) (hm : behindInMarks .Eq e = false) (hd : (x == ("__debug__" : Str)) = false := by decide) (hcd : (x == ("__classdict__" : Str)) = false := by decide) :
    AE X (.Compare (.Name x pn) [.Eq] [e] pos) (wEqV false i w) :=
  ⟨fun F => PEimp (pe_cmpR (op_eqD hu) (pe_var hN hv hd hcd) (h.pe F) hm) fun σ H Q ⟨S, ρ, P, R, ⟨⟨xs0, h0⟩, hw⟩, q⟩ => by
    obtain ⟨a, vs0, hσ, hH, r0⟩ := R.lst h0
    refine ⟨_, hσ, S, ρ, _, R, hw, fun d ρ' S' H' v ⟨xs, hx, ok1, ok2, hP⟩ e1 R1 r1 => ?_⟩
    obtain ⟨a', vs, hσ', hH', r'⟩ := R1.lst hx
    rw [hσ] at hσ'
    cases hσ'
    exact ⟨.list xs, d, dp_own R1.sub hH' r' ok1, R1.dp X.K r1 ok2, ok1, ok2, q _ _ _ _ _ (by simpa using hP) e1 R1 (.bl _)⟩⟩
theorem at_eqV {pn : Pos} (hu : X.A.units + 64 < cLine) (hN : X.N[i]? = some x) (hv : Vis X.env.scope x) (h : AE X e w) (hm : behindInMarks .Eq e = false) (hd : (x == ("__debug__" : Str)) = false := by decide) (hcd : (x == ("__classdict__" : Str)) = false := by decide) :
    AT X (.Compare (.Name x pn) [.Eq] [e] pos) (wtB (wEqV false i w)) :=
  ⟨fun F => PTimp (pt_cmpR (op_eqD hu) (pe_var hN hv hd hcd) (h.pe F) hm) fun σ H Q hq => (show tw F (wEqV false i w) σ H (fun x H' => ∃ k, x = .bl k ∧ Q k H') → _ from fun ⟨S, ρ, P, R, ⟨⟨xs0, h0⟩, hw⟩, q⟩ => by
    obtain ⟨a, vs0, hσ, hH, r0⟩ := R.lst h0
    refine ⟨_, hσ, S, ρ, _, R, hw, fun d ρ' S' H' v ⟨xs, hx, ok1, ok2, hP⟩ e1 R1 r1 => ?_⟩
    obtain ⟨a', vs, hσ', hH', r'⟩ := R1.lst hx
    rw [hσ] at hσ'
    cases hσ'
    exact ⟨.list xs, d, dp_own R1.sub hH' r' ok1, R1.dp X.K r1 ok2, ok1, ok2, q _ _ _ _ _ (by simpa using hP) e1 R1 (.bl _)⟩) (wtB_go σ H Q hq)⟩
theorem ae_neV {pn : Pos} (hu : X.A.units + 64 < cLine) (hN : X.N[i]? = some x) (hv : Vis X.env.scope x) (h : AE X e w) (hm : behindInMarks .NotEq e = false) (hd : (x == ("__debug__" : Str)) = false := by decide) (hcd : (x == ("__classdict__" : Str)) = false := by decide) :
    AE X (.Compare (.Name x pn) [.NotEq] [e] pos) (wEqV true i w) :=
  ⟨fun F => PEimp (pe_cmpR (op_neD hu) (pe_var hN hv hd hcd) (h.pe F) hm) fun σ H Q ⟨S, ρ, P, R, ⟨⟨xs0, h0⟩, hw⟩, q⟩ => by
    obtain ⟨a, vs0, hσ, hH, r0⟩ := R.lst h0
    refine ⟨_, hσ, S, ρ, _, R, hw, fun d ρ' S' H' v ⟨xs, hx, ok1, ok2, hP⟩ e1 R1 r1 => ?_⟩
    obtain ⟨a', vs, hσ', hH', r'⟩ := R1.lst hx
    rw [hσ] at hσ'
    cases hσ'
    exact ⟨.list xs, d, dp_own R1.sub hH' r' ok1, R1.dp X.K r1 ok2, ok1, ok2, q _ _ _ _ _ (by simpa using hP) e1 R1 (.bl _)⟩⟩
theorem at_neV {pn : Pos} (hu : X.A.units + 64 < cLine) (hN : X.N[i]? = some x) (hv : Vis X.env.scope x) (h : AE X e w) (hm : behindInMarks .NotEq e = false) (hd : (x == ("__debug__" : Str)) = false := by decide) (hcd : (x == ("__classdict__" : Str)) = false := by decide) :
    AT X (.Compare (.Name x pn) [.NotEq] [e] pos) (wtB (wEqV true i w)) :=
  ⟨fun F => PTimp (pt_cmpR (op_neD hu) (pe_var hN hv hd hcd) (h.pe F) hm) fun σ H Q hq => (show tw F (wEqV true i w) σ H (fun x H' => ∃ k, x = .bl k ∧ Q k H') → _ from fun ⟨S, ρ, P, R, ⟨⟨xs0, h0⟩, hw⟩, q⟩ => by
    obtain ⟨a, vs0, hσ, hH, r0⟩ := R.lst h0
    refine ⟨_, hσ, S, ρ, _, R, hw, fun d ρ' S' H' v ⟨xs, hx, ok1, ok2, hP⟩ e1 R1 r1 => ?_⟩
    obtain ⟨a', vs, hσ', hH', r'⟩ := R1.lst hx
    rw [hσ] at hσ'
    cases hσ'
    exact ⟨.list xs, d, dp_own R1.sub hH' r' ok1, R1.dp X.K r1 ok2, ok1, ok2, q _ _ _ _ _ (by simpa using hP) e1 R1 (.bl _)⟩) (wtB_go σ H Q hq)⟩
/-! ### dicts with tuple keys -/
abbrev TKey := List Key
def encT (kvs : List (TKey × PyData)) : List (PyData × PyData) := kvs.map fun p => (.tuple (p.1.map keyD), p.2)
def ao_unused : True := trivial
def wNewT : WO := fun P ρ => P (.dic (.dict [])) ρ
theorem ao_newT : AO X (.Dict [] [] pos) wNewT := ⟨fun F => PEimp pe_dnewT fun σ H Q ⟨S, ρ, P, R, hP, q⟩ p hp => q _ _ _ _ _ hP (Le.refl S) (new_dic R hp (.t .nil))⟩
def wNewK : WO := fun P ρ => P (.dic (.dict [(.none, .none)])) ρ
theorem ao_newK : AO X (.Dict [] [] pos) wNewK := ⟨fun F => PEimp pe_dnewK fun σ H Q ⟨S, ρ, P, R, hP, q⟩ p hp => q _ _ _ _ _ hP (Le.refl S) (new_dic R hp (.k .nil))⟩
def lookP {κ : Type} [DecidableEq κ] (kvs : List (κ × PyData)) (k : κ) : Option PyData := (kvs.find? fun kv => decide (kv.1 = k)).map (·.2)
def putP {κ : Type} [DecidableEq κ] (kvs : List (κ × PyData)) (k : κ) (v : PyData) : List (κ × PyData) :=
  if (kvs.any fun kv => decide (kv.1 = k)) = true then kvs.map (fun kv => if kv.1 = k then (kv.1, v) else kv) else kvs ++ [(k, v)]
/-- the pairs of values and those of data -/
def KvRel {κ : Type} (S : Hp) : List (κ × V) → List (κ × PyData) → Prop := Paired fun p q => p.1 = q.1 ∧ Rp S p.2 q.2
theorem kv_look {κ : Type} [DecidableEq κ] {S : Hp} {k : κ} : ∀ {vs : List (κ × V)} {ds : List (κ × PyData)}, KvRel S vs ds → (∀ d, lookP ds k = some d → ∃ v, valV vs k = some v ∧ Rp S v d) ∧ (lookP ds k = none → valV vs k = none)
  | _, _, .nil => ⟨fun d h => by simp [lookP] at h, fun _ => rfl⟩
  | _, _, .cons (a := p) (b := q) ⟨h1, h2⟩ t => by
    have ih := kv_look (k := k) t
    unfold lookP valV at ih ⊢
    by_cases e : p.1 = k
    · simp [List.find?_cons, ← h1, e, h2]
    · simpa [List.find?_cons, ← h1, e] using ih
theorem kv_any {κ : Type} [DecidableEq κ] {S : Hp} {k : κ} : ∀ {vs : List (κ × V)} {ds : List (κ × PyData)}, KvRel S vs ds → (vs.any fun kv => decide (kv.1 = k)) = ds.any fun kv => decide (kv.1 = k)
  | _, _, .nil => rfl
  | _, _, .cons ⟨h1, h2⟩ t => by simp only [List.any_cons, h1, kv_any t]
theorem kv_map {κ : Type} [DecidableEq κ] {S : Hp} {k : κ} {v : V} {d : PyData} (r : Rp S v d) : ∀ {vs : List (κ × V)} {ds : List (κ × PyData)}, KvRel S vs ds → KvRel S (vs.map fun kv => if kv.1 = k then (kv.1, v) else kv) (ds.map fun kv => if kv.1 = k then (kv.1, d) else kv)
  | _, _, .nil => .nil
  | _, _, .cons (a := p) (b := q) ⟨h1, h2⟩ t => by
    rw [List.map_cons, List.map_cons]
    refine .cons ?_ (kv_map r t)
    rw [h1]
    by_cases e : q.1 = k
    · rw [if_pos e, if_pos e]; exact ⟨rfl, r⟩
    · rw [if_neg e, if_neg e]; exact ⟨h1, h2⟩
theorem kv_app {κ : Type} {S : Hp} {k : κ} {v : V} {d : PyData} (r : Rp S v d) : ∀ {vs : List (κ × V)} {ds : List (κ × PyData)}, KvRel S vs ds → KvRel S (vs ++ [(k, v)]) (ds ++ [(k, d)])
  | _, _, .nil => .cons ⟨rfl, r⟩ .nil
  | _, _, .cons h t => .cons h (kv_app r t)
theorem kv_put {κ : Type} [DecidableEq κ] {S : Hp} {k : κ} {v : V} {d : PyData} (r : Rp S v d) {vs : List (κ × V)} {ds : List (κ × PyData)} (h : KvRel S vs ds) : KvRel S (putK vs k v) (putP ds k d) := by
  unfold putK putP
  rw [kv_any h]
  split
  · exact kv_map r h
  · exact kv_app r h
theorem kv_len {κ : Type} {S : Hp} {vs : List (κ × V)} {ds : List (κ × PyData)} (h : KvRel S vs ds) : vs.length = ds.length := Paired.length h
theorem key_inj : ∀ {k k' : Key}, keyD k = keyD k' → k = k'
  | .inl _, .inl _, h => by cases h; rfl
  | .inr _, .inr _, h => by cases h; rfl
  | .inl _, .inr _, h => by cases h
  | .inr _, .inl _, h => by cases h
theorem keys_inj : ∀ {k k' : TKey}, k.map keyD = k'.map keyD → k = k'
  | [], [], _ => rfl
  | _ :: _, [], h => by cases h
  | [], _ :: _, h => by cases h
  | a :: k, b :: k', h => by
    simp only [List.map_cons, List.cons.injEq] at h
    rw [key_inj h.1, keys_inj h.2]
theorem rpt_kv {S : Hp} : ∀ {vs : List (TKey × V)} {ds : List (TKey × PyData)}, RpT S vs (encT ds) → KvRel S vs ds
  | _, [], .nil => .nil
  | (k, v) :: vs, (k', d) :: ds, h => by
    have : ∀ {e : PyData × PyData} {es : List (PyData × PyData)}, RpT S ((k, v) :: vs) (e :: es) → e = (.tuple (k'.map keyD), d) → es = encT ds → k = k' ∧ Rp S v d ∧ RpT S vs (encT ds) := by
      intro e es h he hes
      cases h with
      | cons h1 h2 =>
        simp only [Prod.mk.injEq, PyData.tuple.injEq] at he
        obtain ⟨e1, rfl⟩ := he
        subst hes
        exact ⟨keys_inj e1, h1, h2⟩
    obtain ⟨h1, h2, h3⟩ := this h rfl rfl
    exact .cons ⟨h1, h2⟩ (rpt_kv h3)
theorem kv_rpt {S : Hp} : ∀ {vs : List (TKey × V)} {ds : List (TKey × PyData)}, KvRel S vs ds → RpT S vs (encT ds)
  | _, _, .nil => .nil
  | (k, v) :: _, (k', d) :: _, .cons ⟨h1, h2⟩ t => by
    obtain rfl : k = k' := h1
    exact .cons h2 (kv_rpt t)
/-- a key as a value -/
theorem key_at {S H : Hp} {y : V} {k : TKey} (hs : Same S H) (r : Rp S y (.tuple (k.map keyD))) : ∃ b, y = .ref b ∧ H b = some (.tup (k.map kV)) := by
  cases r with
  | @tup b vs _ h r =>
    refine ⟨b, rfl, ?_⟩
    have : ∀ {vs : List V} {k : TKey}, RpAll S vs (k.map keyD) → vs = k.map kV := by
      intro vs k
      induction k generalizing vs with
      | nil => intro r; cases r; rfl
      | cons a k ih =>
        intro r
        cases r with
        | cons h t =>
          rw [ih t]
          cases a with
          | inl i => cases h; rfl
          | inr x => cases h; rfl
    rw [← this r]
    exact hs _ _ h
theorem rd_sub {S H : Hp} {a : Addr} {u : HO} (hs : Same S H) (h : Rd S a u) : Rd H a u := h.elim (fun h => .inl (hs _ _ h)) fun ⟨o, h⟩ => .inr ⟨o, hs _ _ h⟩
theorem rp_dict {S : Hp} {v : V} {kvs : List (TKey × PyData)} (r : Rp S v (.dict (encT kvs))) : ∃ a vs, v = .ref a ∧ Rd S a (.dT vs) ∧ KvRel S vs kvs := by
  have : ∀ {d : PyData}, Rp S v d → d = .dict (encT kvs) → ∃ a vs, v = .ref a ∧ Rd S a (.dT vs) ∧ KvRel S vs kvs := by
    intro d r e
    cases r with
    | dT h r => cases e; exact ⟨_, _, rfl, h, rpt_kv r⟩
    | dK h r =>
      cases kvs with
      | nil => simp [encT] at e
      | cons p q => simp [encT] at e
    | non => cases e
    | bl _ => cases e
    | int _ => cases e
    | str _ => cases e
    | lst _ _ => cases e
    | tup _ _ => cases e
  exact this r rfl
theorem dic_t {S : Hp} {o : HO} {kvs : List (TKey × PyData)} (r : DicH S o (.dict (encT kvs))) : ∃ vs, o = .dT vs ∧ KvRel S vs kvs := by
  have : ∀ {d : PyData}, DicH S o d → d = .dict (encT kvs) → ∃ vs, o = .dT vs ∧ KvRel S vs kvs := by
    intro d r e
    cases r with
    | t r => cases e; exact ⟨_, rfl, rpt_kv r⟩
    | k r =>
      cases kvs with
      | nil => simp [encT] at e
      | cons p q => simp [encT] at e
  exact this r rfl
end
end AL

set_option Elab.async false
set_option linter.all false
set_option maxRecDepth 100000
set_option maxHeartbeats 4000000
namespace AL
open PySem PySem.Spec PyProof.Rows L2
/-! ### several new values, laid behind the slots -/
section
variable {F S H : Hp} {σ σ2 : L2.St} {ρ ρ2 : AEnv}
theorem RelW.ins {fp : Nat → List Addr} (R : RelW F S (σ ++ σ2) H (ρ ++ ρ2) fp) (hl : σ.length = ρ.length) {v : Option V} {m : AV} {q : List Addr} (sl : SlotOk S H v m q) (nd : q.Nodup)
    (hq : ∀ b ∈ q, S b = none ∧ F b = none ∧ H b ≠ none ∧ ∀ i, b ∉ fp i) : Rel F S (σ ++ v :: σ2) H (ρ ++ m :: ρ2) := by
  refine ⟨fun j => if j < ρ.length then fp j else if j = ρ.length then q else fp (j - 1), ?_⟩
  have get : ∀ (j : Nat), (j < ρ.length ∧ (σ ++ v :: σ2)[j]? = (σ ++ σ2)[j]? ∧ (ρ ++ m :: ρ2)[j]? = (ρ ++ ρ2)[j]?) ∨ (j = ρ.length ∧ (σ ++ v :: σ2)[j]? = some v ∧ (ρ ++ m :: ρ2)[j]? = some m) ∨ (ρ.length < j ∧ (σ ++ v :: σ2)[j]? = (σ ++ σ2)[j - 1]? ∧ (ρ ++ m :: ρ2)[j]? = (ρ ++ ρ2)[j - 1]?) := by
    intro j
    rcases Nat.lt_trichotomy j ρ.length with h | h | h
    · refine .inl ⟨h, ?_, ?_⟩
      · rw [List.getElem?_append_left (by omega), List.getElem?_append_left (by omega)]
      · rw [List.getElem?_append_left (by omega), List.getElem?_append_left (by omega)]
    · refine .inr (.inl ⟨h, ?_, ?_⟩)
      · rw [List.getElem?_append_right (by omega), h, ← hl, Nat.sub_self]; rfl
      · rw [List.getElem?_append_right (by omega), h, Nat.sub_self]; rfl
    · refine .inr (.inr ⟨h, ?_, ?_⟩)
      · rw [List.getElem?_append_right (by omega), List.getElem?_append_right (by omega)]
        obtain ⟨k, hk⟩ : ∃ k, j - σ.length = k + 1 := ⟨j - σ.length - 1, by omega⟩
        rw [hk, List.getElem?_cons_succ, show j - 1 - σ.length = k by omega]
      · rw [List.getElem?_append_right (by omega), List.getElem?_append_right (by omega)]
        obtain ⟨k, hk⟩ : ∃ k, j - ρ.length = k + 1 := ⟨j - ρ.length - 1, by omega⟩
        rw [hk, List.getElem?_cons_succ, show j - 1 - ρ.length = k by omega]
  have fpc : ∀ (j : Nat), (j < ρ.length ∧ (if j < ρ.length then fp j else if j = ρ.length then q else fp (j - 1)) = fp j) ∨ (j = ρ.length ∧ (if j < ρ.length then fp j else if j = ρ.length then q else fp (j - 1)) = q) ∨ (ρ.length < j ∧ (if j < ρ.length then fp j else if j = ρ.length then q else fp (j - 1)) = fp (j - 1)) := by
    intro j
    rcases Nat.lt_trichotomy j ρ.length with h | h | h
    · exact .inl ⟨h, if_pos h⟩
    · exact .inr (.inl ⟨h, by rw [if_neg (by omega), if_pos h]⟩)
    · exact .inr (.inr ⟨h, by rw [if_neg (by omega), if_neg (by omega)]⟩)
  have hln := R.len
  rw [List.length_append, List.length_append] at hln
  exact {
    len := by rw [List.length_append, List.length_append, List.length_cons, List.length_cons]; omega
    slot := fun j av hj => by
      rcases get j with ⟨h, e1, e2⟩ | ⟨h, e1, e2⟩ | ⟨h, e1, e2⟩
      · rw [e2] at hj; rw [e1, if_pos h]; exact R.slot j av hj
      · rw [e2] at hj; cases hj; rw [e1, if_neg (by omega), if_pos h]; exact sl
      · rw [e2] at hj; rw [e1, if_neg (by omega), if_neg (by omega)]; exact R.slot (j - 1) av hj
    nd := fun j => by
      show (if j < ρ.length then fp j else if j = ρ.length then q else fp (j - 1)).Nodup
      rcases fpc j with ⟨_, e⟩ | ⟨_, e⟩ | ⟨_, e⟩ <;> rw [e]
      · exact R.nd _
      · exact nd
      · exact R.nd _
    dis := fun i j a hi hj => by
      rcases fpc i with ⟨h, e⟩ | ⟨h, e⟩ | ⟨h, e⟩ <;> rcases fpc j with ⟨h', e'⟩ | ⟨h', e'⟩ | ⟨h', e'⟩ <;> rw [e] at hi <;> rw [e'] at hj
      · exact R.dis _ _ a hi hj
      · exact absurd hi ((hq a hj).2.2.2 _)
      · have := R.dis _ _ a hi hj; omega
      · exact absurd hj ((hq a hi).2.2.2 _)
      · omega
      · exact absurd hj ((hq a hi).2.2.2 _)
      · have := R.dis _ _ a hi hj; omega
      · exact absurd hi ((hq a hj).2.2.2 _)
      · have := R.dis _ _ a hi hj; omega
    out := fun i a ha => by
      rcases fpc i with ⟨h, e⟩ | ⟨h, e⟩ | ⟨h, e⟩ <;> rw [e] at ha
      · exact R.out _ a ha
      · exact ⟨(hq a ha).1, (hq a ha).2.1, (hq a ha).2.2.1⟩
      · exact R.out _ a ha
    sub := R.sub
    frm := R.frm
    apt := R.apt }
/-- the first thing behind the slots is put into slot i -/
theorem Rel.mv {v : V} {m : AV} (R : Rel F S (σ ++ some v :: σ2) H (ρ ++ m :: ρ2)) (hl : σ.length = ρ.length) (i : Nat) : Rel F S (σ.set i (some v) ++ σ2) H (ρ.set i m ++ ρ2) := by
  obtain ⟨fp, R⟩ := R
  refine ⟨fun j => if j = i ∧ i < ρ.length then fp ρ.length else if j < ρ.length then fp j else fp (j + 1), ?_⟩
  have hln := R.len
  rw [List.length_append, List.length_append, List.length_cons, List.length_cons] at hln
  have fpc : ∀ (j : Nat), ∃ j', (if j = i ∧ i < ρ.length then fp ρ.length else if j < ρ.length then fp j else fp (j + 1)) = fp j' ∧ ((j = i ∧ i < ρ.length ∧ j' = ρ.length) ∨ (j < ρ.length ∧ j' = j ∧ j ≠ i) ∨ (ρ.length ≤ j ∧ j' = j + 1)) := by
    intro j
    by_cases h : j = i ∧ i < ρ.length
    · exact ⟨_, if_pos h, .inl ⟨h.1, h.2, rfl⟩⟩
    · by_cases h2 : j < ρ.length
      · exact ⟨_, by rw [if_neg h, if_pos h2], .inr (.inl ⟨h2, rfl, fun z => h ⟨z, by omega⟩⟩)⟩
      · exact ⟨_, by rw [if_neg h, if_neg h2], .inr (.inr ⟨by omega, rfl⟩)⟩
  exact {
    len := by rw [List.length_append, List.length_append, List.length_set, List.length_set]; omega
    slot := fun j av hj => by
      obtain ⟨j', e, h⟩ := fpc j
      rw [e]
      rcases h with ⟨h1, h2, h3⟩ | ⟨h1, h2, h3⟩ | ⟨h1, h2⟩
      · subst h1
        rw [List.getElem?_append_left (by rw [List.length_set]; exact h2), List.getElem?_set_self h2] at hj
        cases hj
        rw [List.getElem?_append_left (by rw [List.length_set]; omega), List.getElem?_set_self (by omega), h3]
        have := R.slot ρ.length m (by rw [List.getElem?_append_right (Nat.le_refl _), Nat.sub_self]; rfl)
        rw [List.getElem?_append_right (by omega), hl, Nat.sub_self] at this
        exact this
      · rw [List.getElem?_append_left (by rw [List.length_set]; exact h1), List.getElem?_set_ne (Ne.symm h3)] at hj
        rw [List.getElem?_append_left (by rw [List.length_set]; omega), List.getElem?_set_ne (Ne.symm h3), h2]
        have := R.slot j av (by rw [List.getElem?_append_left h1]; exact hj)
        rw [List.getElem?_append_left (by omega)] at this
        exact this
      · rw [List.getElem?_append_right (by rw [List.length_set]; exact h1), List.length_set] at hj
        rw [List.getElem?_append_right (by rw [List.length_set]; omega), List.length_set, h2]
        have := R.slot (j + 1) av (by
          rw [List.getElem?_append_right (by omega)]
          rw [show j + 1 - ρ.length = (j - ρ.length) + 1 by omega, List.getElem?_cons_succ]; exact hj)
        rw [List.getElem?_append_right (by omega), show j + 1 - σ.length = (j - σ.length) + 1 by omega, List.getElem?_cons_succ] at this
        exact this
    nd := fun j => by
      obtain ⟨j', e, _⟩ := fpc j
      show (if j = i ∧ i < ρ.length then fp ρ.length else if j < ρ.length then fp j else fp (j + 1)).Nodup
      rw [e]; exact R.nd _
    dis := fun j k a hj hk => by
      obtain ⟨j', e, h⟩ := fpc j
      obtain ⟨k', e', h'⟩ := fpc k
      rw [e] at hj
      rw [e'] at hk
      have := R.dis _ _ a hj hk
      omega
    out := fun j a ha => by
      obtain ⟨j', e, h⟩ := fpc j
      rw [e] at ha
      exact R.out _ a ha
    sub := R.sub
    frm := R.frm
    apt := R.apt }
end
abbrev WMs := (List AV → AEnv → Prop) → AEnv → Prop
def twm (F : Hp) (w : WMs) : TA := fun σ H Q => ∃ S ρ P, Rel F S σ H ρ ∧ w P ρ ∧ ∀ ms ρ' S' H' vs, P ms ρ' → Le S S' → σ.length = ρ'.length → vs.length = ms.length → Rel F S' (σ ++ vs.map some) H' (ρ' ++ ms) → Q vs H'
structure AMs (X : Cx) (es : List Expr) (w : WMs) : Prop where pa : ∀ F : Hp, PA X es (twm F w)
def wmNil : WMs := fun P ρ => P [] ρ
def wmDat (w : WE) (u : WMs) : WMs := fun P ρ => w (fun d ρ1 => u (fun ms ρ2 => P (.dat d :: ms) ρ2) ρ1) ρ
def wmOwn (w : WO) (u : WMs) : WMs := fun P ρ => w (fun o ρ1 => u (fun ms ρ2 => P (.own o :: ms) ρ2) ρ1) ρ
section
variable {X : Cx} {e : Expr} {es : List Expr} {w : WE} {u : WMs}
theorem am_nil : AMs X [] wmNil := ⟨fun F => PAimp pa_nil fun σ H Q ⟨S, ρ, P, R, hw, q⟩ => q _ _ _ _ _ hw (Le.refl S) (by obtain ⟨fp, r⟩ := R; exact r.len) rfl (by simpa using R)⟩
theorem am_dat (h : AE X e w) (k : AMs X es u) (hs : starEach (e :: es) X.env = (false, eval e X.env) :: starEach es X.env := by rfl) : AMs X (e :: es) (wmDat w u) :=
  ⟨fun F => PAimp (pa_cons (h.pe F) (k.pa F) hs) fun σ H Q ⟨S, ρ, P, R, hw, q⟩ => ⟨S, ρ, _, R, hw, fun d ρ1 S1 H1 v hP e1 R1 r1 => ⟨S1, ρ1, _, R1, hP, fun ms ρ2 S2 H2 vs hP2 e2 l1 l2 R2 => by
    obtain ⟨fp, R2⟩ := R2
    exact q _ _ S2 H2 _ hP2 (e1.trans e2) l1 (by rw [List.length_cons, List.length_cons, l2]) (by
      have := R2.ins l1 (v := some v) (m := .dat d) (q := []) ⟨rfl, v, rfl, rp_mono e2 r1⟩ List.nodup_nil (fun _ z => by cases z)
      simpa using this)⟩⟩⟩
theorem am_own {w : WO} (h : AO X e w) (k : AMs X es u) (hs : starEach (e :: es) X.env = (false, eval e X.env) :: starEach es X.env := by rfl) : AMs X (e :: es) (wmOwn w u) := by
  refine ⟨fun F => PAimp (pa_cons (h.pe F) (t := fun σ H Q => ∃ G, twm G u σ H Q) ⟨fun pos pins s σ H Q I ⟨G, q⟩ => (k.pa G).run pos pins s σ H Q I q⟩ hs) fun σ H Q ⟨S, ρ, P, R, hw, q⟩ => ⟨S, ρ, _, R, hw, fun o ρ1 S1 H1 a hP e1 N1 => ?_⟩⟩
  obtain ⟨fp, qs, R1, ow, nd, hq⟩ := N1
  have R1f : Rel (fun b => if b ∈ qs then H1 b else F b) S1 σ H1 ρ1 := ⟨fp, { R1 with
    out := fun i b hb => ⟨(R1.out i b hb).1, by
      show (if b ∈ qs then H1 b else F b) = none
      rw [if_neg (fun z => (hq b z).2.2.2 i hb)]; exact (R1.out i b hb).2.1, (R1.out i b hb).2.2⟩
    frm := fun b x hb => by
      dsimp only at hb
      by_cases z : b ∈ qs
      · rw [if_pos z] at hb; exact hb
      · rw [if_neg z] at hb; exact R1.frm b x hb
    apt := ⟨fun b x hb => by
      dsimp only at hb
      by_cases z : b ∈ qs
      · exact (hq b z).1
      · rw [if_neg z] at hb; exact R1.apt.1 b x hb, fun b xs hb => by
      dsimp only at hb
      by_cases z : b ∈ qs
      · rw [if_pos z] at hb; exact own_kind ow b z xs hb
      · rw [if_neg z] at hb; exact R1.apt.2 b xs hb⟩ }⟩
  refine ⟨_, S1, ρ1, _, R1f, hP, fun ms ρ2 S2 H2 vs hP2 e2 l1 l2 R2 => ?_⟩
  have g1 : ∀ b ∈ qs, (fun b => if b ∈ qs then H1 b else F b) b = H1 b := fun b hb => if_pos hb
  have g2 : ∀ b, b ∉ qs → (fun b => if b ∈ qs then H1 b else F b) b = F b := fun b hb => if_neg hb
  generalize (fun b => if b ∈ qs then H1 b else F b) = G at R2 g1 g2
  obtain ⟨fp2, R2⟩ := R2
  have keep : ∀ b ∈ qs, H2 b = H1 b ∧ S2 b = none := fun b hb => by
    cases z : H1 b with
    | none => exact absurd z (hq b hb).2.2.1
    | some x => exact ⟨R2.frm b x (by rw [g1 b hb]; exact z), R2.apt.1 b x (by rw [g1 b hb]; exact z)⟩
  have nfp : ∀ b ∈ qs, ∀ i, b ∉ fp2 i := fun b hb i hi => by
    have := (R2.out i b hi).2.1
    rw [g1 b hb] at this
    exact (hq b hb).2.2.1 this
  have R3 : RelW F S2 (σ ++ vs.map some) H2 (ρ2 ++ ms) fp2 := { R2 with
    out := fun i b hb => ⟨(R2.out i b hb).1, by
      have := (R2.out i b hb).2.1
      rw [g2 b (fun z => nfp b z i hb)] at this; exact this, (R2.out i b hb).2.2⟩
    frm := fun b x hb => R2.frm b x (by rw [g2 b (fun z => by rw [(hq b z).2.1] at hb; cases hb)]; exact hb)
    apt := ⟨fun b x hb => R2.apt.1 b x (by rw [g2 b (fun z => by rw [(hq b z).2.1] at hb; cases hb)]; exact hb), fun b xs hb => R2.apt.2 b xs (by rw [g2 b (fun z => by rw [(hq b z).2.1] at hb; cases hb)]; exact hb)⟩ }
  exact q _ _ S2 H2 _ hP2 (e1.trans e2) l1 (by rw [List.length_cons, List.length_cons, l2]) (by
    have := R3.ins l1 (v := some (.ref a)) (m := .own o) (q := qs) ⟨a, rfl, own_keep e2 ow fun b hb => (keep b hb).1⟩ nd (fun b hb => ⟨(keep b hb).2, (hq b hb).2.1, by rw [(keep b hb).1]; exact (hq b hb).2.2.1, nfp b hb⟩)
    simpa using this)
theorem len2 {α : Type} {l : List α} (h : l.length = 2) : ∃ a b, l = [a, b] := match l, h with | [a, b], _ => ⟨a, b, rfl⟩
theorem len3 {α : Type} {l : List α} (h : l.length = 3) : ∃ a b c, l = [a, b, c] := match l, h with | [a, b, c], _ => ⟨a, b, c, rfl⟩
def wPar (i j : Nat) (u : WMs) : WS := fun k ρ => u (fun ms ρ' => match ms with | [m, m'] => k.nx ((ρ'.set i m).set j m') | _ => False) ρ
def wPar3 (i j l : Nat) (u : WMs) : WS := fun k ρ => u (fun ms ρ' => match ms with | [m, m', m''] => k.nx (((ρ'.set i m).set j m').set l m'') | _ => False) ρ
theorem as_par {i j : Nat} {x y : Str} {a b : Expr} {px py pt pos : Pos} {kt k2 pt2} (hc : X.calm = true) (hN : X.N.Nodup) (hi : X.N[i]? = some x) (hj : X.N[j]? = some y) (hx : X.env.scope.names.lookup x = some .local) (hy : X.env.scope.names.lookup y = some .local)
    (ha : AMs X [a, b] u) (hij : i ≠ j := by decide) (hw : swappedStores [.Tuple [.Name x px, .Name y py] kt pt] (.Tuple [a, b] k2 pt2) X.env = pure (some [x, y]) := by rfl) (hs : swapsWithSole [.Tuple [.Name x px, .Name y py] kt pt] (.Tuple [a, b] k2 pt2) pos.line X.env = pure false := by rfl) :
    AS X (.Assign [.Tuple [.Name x px, .Name y py] kt pt] (.Tuple [a, b] k2 pt2) pos) (wPar i j u) :=
  ⟨fun F => PSimp (ps_par hc hN hi hj hij hx hy (ha.pa F) hw hs) fun D σ H ⟨S, ρ, k, R, h, q, _⟩ => ⟨S, ρ, _, R, h, fun ms ρ' S' H' vs hP e1 l1 l2 R1 => by
    split at hP
    · rename_i m m'
      obtain ⟨v, v', rfl⟩ : ∃ v v', vs = [v, v'] := len2 l2
      refine ⟨v, v', rfl, q _ _ _ _ hP e1 ?_⟩
      have R2 := Rel.mv R1 l1 i
      have R3 := Rel.mv R2 (by rw [List.length_set, List.length_set]; exact l1) j
      simpa using R3
    · exact hP.elim⟩⟩
theorem as_par3 {i j l : Nat} {x y z : Str} {a b c : Expr} {px py pz pt pos : Pos} {kt k2 pt2} (hc : X.calm = true) (hN : X.N.Nodup) (hi : X.N[i]? = some x) (hj : X.N[j]? = some y) (hl : X.N[l]? = some z) (hx : X.env.scope.names.lookup x = some .local) (hy : X.env.scope.names.lookup y = some .local) (hz : X.env.scope.names.lookup z = some .local)
    (ha : AMs X [a, b, c] u) (hij : i ≠ j := by decide) (hil : i ≠ l := by decide) (hjl : j ≠ l := by decide) (hw : swappedStores [.Tuple [.Name x px, .Name y py, .Name z pz] kt pt] (.Tuple [a, b, c] k2 pt2) X.env = pure (some [x, y, z]) := by rfl) (hs : swapsWithSole [.Tuple [.Name x px, .Name y py, .Name z pz] kt pt] (.Tuple [a, b, c] k2 pt2) pos.line X.env = pure false := by rfl) :
    AS X (.Assign [.Tuple [.Name x px, .Name y py, .Name z pz] kt pt] (.Tuple [a, b, c] k2 pt2) pos) (wPar3 i j l u) :=
  ⟨fun F => PSimp (ps_par3 hc hN hi hj hl hij hil hjl hx hy hz (ha.pa F) hw hs) fun D σ H ⟨S, ρ, k, R, h, q, _⟩ => ⟨S, ρ, _, R, h, fun ms ρ' S' H' vs hP e1 l1 l2 R1 => by
    split at hP
    · rename_i m m' m''
      obtain ⟨v, v', v'', rfl⟩ : ∃ v v' v'', vs = [v, v', v''] := len3 l2
      refine ⟨v, v', v'', rfl, q _ _ _ _ hP e1 ?_⟩
      have R2 := Rel.mv R1 l1 i
      have R3 := Rel.mv R2 (by rw [List.length_set, List.length_set]; exact l1) j
      have R4 := Rel.mv R3 (by simp only [List.length_set]; exact l1) l
      simpa using R4
    · exact hP.elim⟩⟩
/-! ### starred items -/
def wStar (w : WE) (u : WA) : WA := fun P ρ => w (fun d ρ1 => match d with
  | .list ds => u (fun es ρ2 => P (ds ++ es) ρ2) ρ1
  | .tuple ds => u (fun es ρ2 => P (ds ++ es) ρ2) ρ1
  | _ => False) ρ
theorem aa_star {u : WA} {p : Pos} (h : AE X e w) (k : AA X es u) (hs : starEach (.Starred e p :: es) X.env = (true, eval e X.env) :: starEach es X.env := by rfl) : AA X (.Starred e p :: es) (wStar w u) :=
  ⟨fun F => PAimp (StX.pa_star (h.pe F) (k.pa F) hs) fun σ H Q ⟨S, ρ, P, R, hw, q⟩ => ⟨S, ρ, _, R, hw, fun d ρ1 S1 H1 v hP e1 R1 r1 => by
    split at hP
    · cases r1 with
      | @lst a vs ds h r => exact ⟨a, vs, rfl, .inr (.inl (.inl (R1.sub _ _ h))), S1, ρ1, _, R1, hP, fun es ρ2 S2 H2 us hP2 e2 R2 r2 => q _ _ _ _ _ hP2 (e1.trans e2) R2 (rps_append (rps_mono e2 r) r2)⟩
    · cases r1 with
      | @tup a vs ds h r => exact ⟨a, vs, rfl, .inl (.inl (.inl (R1.sub _ _ h))), S1, ρ1, _, R1, hP, fun es ρ2 S2 H2 us hP2 e2 R2 r2 => q _ _ _ _ _ hP2 (e1.trans e2) R2 (rps_append (rps_mono e2 r) r2)⟩
    · exact hP.elim⟩⟩
end
end AL

set_option Elab.async false
set_option linter.all false
set_option maxRecDepth 100000
set_option maxHeartbeats 4000000
namespace AL
open PySem PySem.Spec PyProof.Rows L2
theorem look_some {κ : Type} [DecidableEq κ] {S : Hp} {k : κ} {vs : List (κ × V)} {ds : List (κ × PyData)} (h : KvRel S vs ds) : (valV vs k).isSome = (lookP ds k).isSome := by
  cases q : lookP ds k with
  | none => rw [(kv_look h).2 q]; rfl
  | some d => obtain ⟨v, hv, _⟩ := (kv_look h).1 d q; rw [hv]; rfl
/-- a kind of dict: what its keys are -/
structure DKind where
  κ : Type
  dec : DecidableEq κ
  ho : List (κ × V) → HO
  enc : List (κ × PyData) → PyData
  key : κ → PyData
  kat : Hp → κ → V → Prop
  isd : ∀ kvs, isDic (ho kvs)
  mtb : ∀ kvs, Mut (some (ho kvs))
  new : ∀ (X : Cx) (pos : Pos), PE X (.Dict [] [] pos) (fun _ H Q => ∀ p, H p = none → Q (.ref p) (upd H p (ho [])))
  dich : ∀ {S : Hp} {o : HO} {kvs : List (κ × PyData)}, DicH S o (enc kvs) → ∃ vs, o = ho vs ∧ KvRel S vs kvs
  hdic : ∀ {S : Hp} {vs : List (κ × V)} {kvs : List (κ × PyData)}, KvRel S vs kvs → DicH S (ho vs) (enc kvs)
  rp : ∀ {S : Hp} {v : V} {kvs : List (κ × PyData)}, Rp S v (enc kvs) → ∃ a vs, v = .ref a ∧ Rd S a (ho vs) ∧ KvRel S vs kvs
  keyAt : ∀ {S H : Hp} {y : V} {k : κ}, Same S H → Rp S y (key k) → kat H k y
  keyRp : ∀ {F S H : Hp} {σ : L2.St} {ρ : AEnv} {y : V} {k : κ}, Rel F S σ H ρ → kat H k y → ∃ S', Le S S' ∧ Rel F S' σ H ρ ∧ Rp S' y (key k)
  katSame : ∀ {H H' : Hp} {k : κ} {y : V}, Same H H' → kat H k y → kat H' k y
  get : ∀ {H : Hp} {a : Addr} {kvs : List (κ × V)} {k : κ} {y : V}, Rd H a (ho kvs) → kat H k y → DGet H a y (valV kvs k)
  put : ∀ {H : Hp} {a : Addr} {kvs : List (κ × V)} {k : κ} {y v : V}, H a = some (ho kvs) → kat H k y → kvs.length < sizeLine → DPut H a y v (upd H a (ho (putK kvs k v)))
  isD : ∀ {H : Hp} {a : Addr} {kvs : List (κ × V)}, Rd H a (ho kvs) → IsD H a
  rd : ∀ {X : Cx} {pins : List (Addr × Obj)} {σ : L2.St} {H : Hp} {s : Shared} {k : κ} {y : V} {u : Value}, L2.Inv X pins σ H s → kat H k y → RelV y u → Reads s.heap u (key k) []
  len : ∀ (X : Cx), CallR X (.builtin "len") (fun xs H Q => ∃ (p : Addr) (kvs : List (κ × V)), xs = [.ref p] ∧ Rd H p (ho kvs) ∧ Q (.int ((kvs.length : Nat) : Int)) H)
  raw : ∀ {X : Cx} {pins : List (Addr × Obj)} {σ : L2.St} {H : Hp} {s : Shared} {a : Addr} {kvs : List (κ × V)}, L2.Inv X pins σ H s → Rd H a (ho kvs) → kvs.length ≤ sizeLine ∧ (a == sysModules) = false ∧
    ∃ (o : Obj) (es : Array DictEntry) (ep : Nat), s.heap.get? a = some o ∧ o.ExactDict ∧ o.data = .dict es ep ∧ es.size = kvs.length ∧
      ∀ (i : Nat) (k : κ) (v : V), kvs[i]? = some (k, v) → ∃ (en : DictEntry) (y : V), es[i]? = some en ∧ kat H k y ∧ RelV y en.key ∧ RelV v en.val
instance (D : DKind) : DecidableEq D.κ := D.dec
def encK (kvs : List (Key × PyData)) : List (PyData × PyData) := (.none, .none) :: kvs.map fun p => (keyD p.1, p.2)
theorem rpk_kv {S : Hp} : ∀ {vs : List (Key × V)} {ds : List (Key × PyData)}, RpK S vs (ds.map fun p => (keyD p.1, p.2)) → KvRel S vs ds
  | _, [], .nil => .nil
  | (k, v) :: vs, (k', d) :: ds, h => by
    have : ∀ {e : PyData × PyData} {es : List (PyData × PyData)}, RpK S ((k, v) :: vs) (e :: es) → e = (keyD k', d) → es = (ds.map fun p => (keyD p.1, p.2)) → k = k' ∧ Rp S v d ∧ RpK S vs (ds.map fun p => (keyD p.1, p.2)) := by
      intro e es h he hes
      cases h with
      | cons h1 h2 =>
        simp only [Prod.mk.injEq] at he
        obtain ⟨e1, rfl⟩ := he
        subst hes
        exact ⟨key_inj e1, h1, h2⟩
    obtain ⟨h1, h2, h3⟩ := this h rfl rfl
    exact .cons ⟨h1, h2⟩ (rpk_kv h3)
theorem kv_rpk {S : Hp} : ∀ {vs : List (Key × V)} {ds : List (Key × PyData)}, KvRel S vs ds → RpK S vs (ds.map fun p => (keyD p.1, p.2))
  | _, _, .nil => .nil
  | (k, v) :: _, (k', d) :: _, .cons ⟨h1, h2⟩ t => by
    obtain rfl : k = k' := h1
    exact .cons h2 (kv_rpk t)
theorem kt_get {H : Hp} {kvs : List (List Key × V)} {xs : List (List Key × Addr × Value)} (r : KT H kvs xs) {i : Nat} {k : List Key} {v : V} (h : kvs[i]? = some (k, v)) : ∃ b u, xs[i]? = some (k, b, u) ∧ H b = some (.tup (k.map kV)) ∧ RelV v u := by
  obtain ⟨⟨k', b, u⟩, hb, e1, e2, e3⟩ := paired_get r h
  cases e1
  exact ⟨b, u, hb, e2, e3⟩
theorem key_read {h : Heap} {k : Key} {u : Value} (r : RelV (kV k) u) : Reads h u (keyD k) [] := by
  cases k with
  | inl i => obtain ⟨t, rfl⟩ := (show ∃ t, u = Value.int i t from r); exact .int i t
  | inr x => obtain ⟨t, rfl⟩ := (show ∃ t, u = Value.str x t from r); exact .str x t
theorem keys_read {h : Heap} : ∀ {ks : List Key} {us : List Value}, Vals (ks.map kV) us → ReadsAll h us (ks.map keyD) []
  | [], _, .nil => .nil
  | _ :: _, _, .cons r t => .cons (as := []) (bs := []) (key_read r) (keys_read t)
def dkT : DKind where
  κ := TKey
  dec := inferInstance
  ho := .dT
  enc := fun kvs => .dict (encT kvs)
  key := fun k => .tuple (k.map keyD)
  kat := fun H k y => ∃ b, y = .ref b ∧ H b = some (.tup (k.map kV))
  isd := fun _ => True.intro
  mtb := fun _ => True.intro
  new := fun X pos => pe_dnewT
  dich := dic_t
  hdic := fun h => .t (kv_rpt h)
  rp := rp_dict
  keyAt := key_at
  keyRp := fun R ⟨b, e, h⟩ => by
    subst e
    obtain ⟨S', e1, R1, h1⟩ := rel_addTup R h
    exact ⟨S', e1, R1, .tup h1 (rps_key _)⟩
  katSame := fun e ⟨b, h, h1⟩ => ⟨b, h, e _ _ h1⟩
  get := fun hd ⟨b, e, hb⟩ => .inr ⟨_, _, b, hd, e, hb, rfl⟩
  put := fun hd ⟨b, e, hb⟩ hl => by subst e; exact DPut.t hd hb hl
  isD := fun h => .inr ⟨_, h⟩
  rd := fun {X pins σ H s k y u} I ⟨b, e, hb⟩ ru => by
    subst e
    obtain rfl : u = Value.ref b := ru
    obtain ⟨_, its, r, o, h1, h2, n, h3⟩ := (show ObjOk X.prog X.w H s.heap b (.tup (k.map kV)) from I.hok b _ hb)
    exact .tuple h1 h2 h3 (by rw [List.toList_toArray]; exact keys_read r)
  len := fun X pins σ s H xs us Q I r h => by
    obtain ⟨p, kvs, rfl, hp, q⟩ := h
    obtain ⟨u, rfl, rx⟩ := vals1 r
    obtain rfl : u = .ref p := rx
    obtain ⟨z, hd, ys, rel, dd⟩ := dt_rd I.hok hp
    have hl : kvs.length = ys.length := Paired.length rel
    refine call_len_dictH hd dd (by rw [sizeLine_eq] at z; omega) ?_
    rw [← hl]
    exact ⟨.int ((kvs.length : Nat) : Int), H, I.tok _, ⟨_, rfl⟩, q⟩
  raw := fun {X pins σ H s a kvs} I h => by
    obtain ⟨z, hs, xs, r, o, es, ep, ho, hx, hdt, he, _⟩ := dt_rd I.hok h
    have hl : kvs.length = xs.length := Paired.length r
    refine ⟨z, hs, o, es, ep, ho, hx, hdt, by rw [size_of_entries he]; exact hl.symm, fun i k v hk => ?_⟩
    obtain ⟨b, u, hb, e2, e3⟩ := kt_get r hk
    have q := entry_at he i
    rw [hb] at q
    exact ⟨_, .ref b, q, ⟨b, rfl, e2⟩, rfl, e3⟩
def dkK : DKind where
  κ := Key
  dec := inferInstance
  ho := .dK
  enc := fun kvs => .dict (encK kvs)
  key := keyD
  kat := fun _ k y => y = kV k
  isd := fun _ => True.intro
  mtb := fun _ => True.intro
  new := fun X pos => pe_dnewK
  dich := fun {S o kvs} r => by
    have : ∀ {d : PyData}, DicH S o d → d = .dict (encK kvs) → ∃ vs, o = .dK vs ∧ KvRel S vs kvs := by
      intro d r e
      cases r with
      | t q => cases q <;> simp [encK] at e
      | k r =>
        simp only [encK, PyData.dict.injEq, List.cons.injEq, true_and] at e
        subst e
        exact ⟨_, rfl, rpk_kv r⟩
    exact this r rfl
  hdic := fun h => .k (kv_rpk h)
  rp := fun {S v kvs} r => by
    have : ∀ {d : PyData}, Rp S v d → d = .dict (encK kvs) → ∃ a vs, v = .ref a ∧ Rd S a (.dK vs) ∧ KvRel S vs kvs := by
      intro d r e
      cases r with
      | dT h q => cases q <;> simp [encK] at e
      | dK h r =>
        simp only [encK, PyData.dict.injEq, List.cons.injEq, true_and] at e
        subst e
        exact ⟨_, _, rfl, h, rpk_kv r⟩
      | non => cases e
      | bl _ => cases e
      | int _ => cases e
      | str _ => cases e
      | lst _ _ => cases e
      | tup _ _ => cases e
    exact this r rfl
  keyAt := fun {S H y k} _ r => by
    cases k with
    | inl i => cases r; rfl
    | inr x => cases r; rfl
  keyRp := fun {F S H σ ρ y k} R h => by
    subst h
    refine ⟨S, Le.refl S, R, ?_⟩
    cases k with
    | inl i => exact .int i
    | inr x => exact .str x
  katSame := fun _ h => h
  get := fun hd e => by subst e; exact .inl ⟨_, _, hd, rfl, rfl⟩
  put := fun hd e hl => by subst e; exact DPut.k hd hl
  isD := fun h => .inl ⟨_, h⟩
  rd := fun {X pins σ H s k y u} I e ru => by
    subst e
    exact key_read ru
  len := fun X pins σ s H xs us Q I r h => by
    obtain ⟨p, kvs, rfl, hp, q⟩ := h
    obtain ⟨u, rfl, rx⟩ := vals1 r
    obtain rfl : u = .ref p := rx
    exact d_len I hp fun t s' I' => ⟨.int ((kvs.length : Nat) : Int), H, I', ⟨t, rfl⟩, q⟩
  raw := fun {X pins σ H s a kvs} I h => by
    obtain ⟨z, hs, vs, r, o, es, ep, ho, hx, hdt, _, hp, _⟩ := dk_rd I.hok h
    have hl : kvs.length = vs.length := Paired.length r
    have hl2 := hp.length
    rw [Array.length_toList] at hl2
    refine ⟨z, hs, o, es, ep, ho, hx, hdt, by omega, fun i k v hk => ?_⟩
    obtain ⟨⟨k', u⟩, hu, e1, ru⟩ := paired_get r hk
    cases e1
    have hi : i < es.size := by have := (List.getElem?_eq_some_iff.mp hu).1; omega
    obtain ⟨h1, h2⟩ := hp.get? (e := es[i]) (by simp [hi]) hu
    exact ⟨es[i], kV k, Array.getElem?_eq_getElem hi, rfl, relV_key (show keyIs k es[i].key = true from h1), by rw [h2]; exact ru⟩
end AL

set_option Elab.async false
set_option linter.all false
set_option maxRecDepth 100000
set_option maxHeartbeats 4000000
namespace AL
open PySem PySem.Spec PyProof.Rows L2
section
variable {X : Cx} {F : Hp} {e a b c : Expr} {es : List Expr} {p pos apos pn : Pos} {x : Str} {w wa wb wc : WE} {i : Nat} (D : DKind)
def wNewD : WO := fun P ρ => P (.dic (D.enc [])) ρ
theorem ao_dnew : AO X (.Dict [] [] pos) (wNewD D) := ⟨fun F => PEimp (D.new X pos) fun σ H Q ⟨S, ρ, P, R, hP, q⟩ p hp => q _ _ _ _ _ hP (Le.refl S) (new_dic R hp (D.hdic .nil))⟩
def dgetD : W2 := fun d e P => ∃ kvs k v, d = D.enc kvs ∧ e = D.key k ∧ lookP kvs k = some v ∧ P v
theorem ae_dget (hu : X.A.units + 1 < cLine) (ha : AE X a wa) (hb : AE X b wb) (hs : NoSl b) : AE X (.Subscript a b pos) (wBin (dgetD D) wa wb) :=
  ⟨fun F => PEimp (pe_dget hu (ha.pe F) (hb.pe F) hs) fun σ H Q ⟨S, ρ, P, R, hw, q⟩ => ⟨S, ρ, _, R, hw, fun d ρ1 S1 H1 x h1 e1 R1 r1 => ⟨S1, ρ1, _, R1, h1, fun e ρ2 S2 H2 y h2 e2 R2 r2 => by
    obtain ⟨kvs, k, v, rfl, rfl, hl, hP⟩ := h2
    obtain ⟨a, vs, rfl, hd, kv⟩ := D.rp (rp_mono e2 r1)
    obtain ⟨u, hu, ru⟩ := (kv_look kv).1 _ hl
    exact ⟨a, u, rfl, by rw [← hu]; exact D.get (rd_sub R2.sub hd) (D.keyAt R2.sub r2), q _ _ _ _ _ hP (e1.trans e2) R2 ru⟩⟩⟩⟩
def dinD (neg : Bool) : W2 := fun e d P => ∃ kvs k, d = D.enc kvs ∧ e = D.key k ∧ P (.bool (xor neg (lookP kvs k).isSome))
theorem ae_din_go : ∀ σ H Q, tw F (wBin (dinD D false) wa wb) σ H Q → tDIn (tw F wa) (tw F wb) σ H Q := fun σ H Q ⟨S, ρ, P, R, hw, q⟩ => ⟨S, ρ, _, R, hw, fun d ρ1 S1 H1 x h1 e1 R1 r1 => ⟨S1, ρ1, _, R1, h1, fun e ρ2 S2 H2 y h2 e2 R2 r2 => by
    obtain ⟨kvs, k, rfl, rfl, hP⟩ := h2
    obtain ⟨a, vs, rfl, hd, kv⟩ := D.rp r2
    exact ⟨a, _, rfl, D.get (rd_sub R2.sub hd) (D.keyAt R2.sub (rp_mono e2 r1)), q _ _ _ _ _ hP (e1.trans e2) R2 (by rw [look_some kv, Bool.false_xor]; exact .bl _)⟩⟩⟩
theorem ae_din (hu : X.A.units + 1 < cLine) (ha : AE X a wa) (hb : AE X b wb) (hm : behindInMarks .In b = false := by rfl) : AE X (.Compare a [.In] [b] pos) (wBin (dinD D false) wa wb) :=
  ⟨fun F => PEimp (pe_cmp (pc_din hu (ha.pe F) (hb.pe F)) hm) (ae_din_go D)⟩
theorem at_din (hu : X.A.units + 1 < cLine) (ha : AE X a wa) (hb : AE X b wb) (hm : behindInMarks .In b = false := by rfl) : AT X (.Compare a [.In] [b] pos) (wtB (wBin (dinD D false) wa wb)) :=
  ⟨fun F => PTimp (pt_cmp (pc_din hu (ha.pe F) (hb.pe F)) hm) fun σ H Q h => ae_din_go D σ H _ (wtB_go σ H Q h)⟩
theorem ae_dnin_go : ∀ σ H Q, tw F (wBin (dinD D true) wa wb) σ H Q → tDNotIn (tw F wa) (tw F wb) σ H Q := fun σ H Q ⟨S, ρ, P, R, hw, q⟩ => ⟨S, ρ, _, R, hw, fun d ρ1 S1 H1 x h1 e1 R1 r1 => ⟨S1, ρ1, _, R1, h1, fun e ρ2 S2 H2 y h2 e2 R2 r2 => by
    obtain ⟨kvs, k, rfl, rfl, hP⟩ := h2
    obtain ⟨a, vs, rfl, hd, kv⟩ := D.rp r2
    exact ⟨a, _, rfl, D.get (rd_sub R2.sub hd) (D.keyAt R2.sub (rp_mono e2 r1)), q _ _ _ _ _ hP (e1.trans e2) R2 (by rw [look_some kv, Bool.true_xor]; exact .bl _)⟩⟩⟩
theorem ae_dnin (hu : X.A.units + 1 < cLine) (ha : AE X a wa) (hb : AE X b wb) (hm : behindInMarks .NotIn b = false := by rfl) : AE X (.Compare a [.NotIn] [b] pos) (wBin (dinD D true) wa wb) :=
  ⟨fun F => PEimp (pe_cmp (pc_dnotin hu (ha.pe F) (hb.pe F)) hm) (ae_dnin_go D)⟩
theorem at_dnin (hu : X.A.units + 1 < cLine) (ha : AE X a wa) (hb : AE X b wb) (hm : behindInMarks .NotIn b = false := by rfl) : AT X (.Compare a [.NotIn] [b] pos) (wtB (wBin (dinD D true) wa wb)) :=
  ⟨fun F => PTimp (pt_cmp (pc_dnotin hu (ha.pe F) (hb.pe F)) hm) fun σ H Q h => ae_dnin_go D σ H _ (wtB_go σ H Q h)⟩
def dget2D (wa wk wx : WE) : WE := fun P ρ => wa (fun d ρ1 => (∃ kvs, d = D.enc kvs) ∧ wk (fun e ρ2 => wx (fun x ρ3 => ∃ kvs k, d = D.enc kvs ∧ e = D.key k ∧ P ((lookP kvs k).getD x) ρ3) ρ2) ρ1) ρ
theorem kv_getD {κ : Type} [DecidableEq κ] {S : Hp} {k : κ} {vs : List (κ × V)} {ds : List (κ × PyData)} (h : KvRel S vs ds) {z : V} {x : PyData} (r : Rp S z x) : Rp S ((valV vs k).getD z) ((lookP ds k).getD x) := by
  cases q : lookP ds k with
  | none => rw [(kv_look h).2 q]; exact r
  | some d => obtain ⟨v, hv, rv⟩ := (kv_look h).1 d q; rw [hv]; exact rv
theorem ae_dget2 (hu : X.A.units + 1 < cLine) (ha : AE X a wa) (hb : AE X b wb) (hc : AE X c wc) (m : M2 X a "get" apos b c pos) : AE X (.Call (.Attribute a "get" apos) [b, c] [] pos) (dget2D D wa wb wc) :=
  ⟨fun F => PEimp (pe_dget2 hu (ha.pe F) (hb.pe F) (hc.pe F) m) fun σ H Q ⟨S, ρ, P, R, hw, q⟩ => ⟨S, ρ, _, R, hw, fun d ρ1 S1 H1 x h1 e1 R1 r1 => by
    obtain ⟨⟨kvs, rfl⟩, h1⟩ := h1
    obtain ⟨a, vs, rfl, hd, kv⟩ := D.rp r1
    refine ⟨a, rfl, D.isD (rd_sub R1.sub hd), S1, ρ1, _, R1, h1, fun ek ρ2 S2 H2 y h2 e2 R2 r2 => ⟨S2, ρ2, _, R2, h2, fun xd ρ3 S3 H3 z h3 e3 R3 r3 => ?_⟩⟩
    obtain ⟨kvs', k, he, rfl, hP⟩ := h3
    obtain ⟨a', vs', ea, hd', kv'⟩ := D.rp (by rw [← he]; exact rp_mono (e2.trans e3) r1)
    cases ea
    exact ⟨_, D.get (rd_sub R3.sub hd') (D.keyAt R3.sub (rp_mono e3 r2)), q _ _ _ _ _ hP ((e1.trans e2).trans e3) R3 (kv_getD kv' r3)⟩⟩⟩
/-! owned dicts -/
def wGetV (i : Nat) (wk : WE) : WE := fun P ρ => (∃ d, ρ[i]? = some (.own (.dic d))) ∧ wk (fun e ρ1 => ∃ kvs k v, ρ1[i]? = some (.own (.dic (D.enc kvs))) ∧ e = D.key k ∧ lookP kvs k = some v ∧ P v ρ1) ρ
theorem ae_dgetV (hu : X.A.units + 1 < cLine) (hN : X.N[i]? = some x) (hv : Vis X.env.scope x) (hb : AE X b wb) (hs : NoSl b) (hd : (x == ("__debug__" : Str)) = false := by decide) (hcd : (x == ("__classdict__" : Str)) = false := by decide) :
    AE X (.Subscript (.Name x pn) b pos) (wGetV D i wb) :=
  ⟨fun F => PEimp (pe_dget hu (pe_var hN hv hd hcd) (hb.pe F) hs) fun σ H Q ⟨S, ρ, P, R, ⟨⟨d0, h0⟩, hw⟩, q⟩ => by
    obtain ⟨a, o, hσ, hH, r0⟩ := R.dic h0
    refine ⟨_, hσ, S, ρ, _, R, hw, fun ek ρ2 S2 H2 y h2 e2 R2 r2 => ?_⟩
    obtain ⟨kvs, k, v, h1, rfl, hl, hP⟩ := h2
    obtain ⟨a', o', hσ', hH', r'⟩ := R2.dic h1
    rw [hσ] at hσ'
    cases hσ'
    obtain ⟨vs, rfl, kv⟩ := D.dich r'
    obtain ⟨u, hu, ru⟩ := (kv_look kv).1 _ hl
    exact ⟨a, u, rfl, by rw [← hu]; exact D.get (.inl hH') (D.keyAt R2.sub r2), q _ _ _ _ _ hP e2 R2 ru⟩⟩
def wInV (neg : Bool) (i : Nat) (wk : WE) : WE := wk |> fun wk P ρ => wk (fun e ρ1 => ∃ kvs k, ρ1[i]? = some (.own (.dic (D.enc kvs))) ∧ e = D.key k ∧ P (.bool (xor neg (lookP kvs k).isSome)) ρ1) ρ
theorem ae_dinV_go : ∀ σ H Q, tw F (wInV D false i wa) σ H Q → tDIn (tw F wa) (tVar i) σ H Q := fun σ H Q ⟨S, ρ, P, R, hw, q⟩ => ⟨S, ρ, _, R, hw, fun ek ρ2 S2 H2 y h2 e2 R2 r2 => by
    obtain ⟨kvs, k, h1, rfl, hP⟩ := h2
    obtain ⟨a', o', hσ', hH', r'⟩ := R2.dic h1
    obtain ⟨vs, rfl, kv⟩ := D.dich r'
    exact ⟨_, hσ', a', _, rfl, D.get (.inl hH') (D.keyAt R2.sub r2), q _ _ _ _ _ hP e2 R2 (by rw [look_some kv, Bool.false_xor]; exact .bl _)⟩⟩
theorem ae_dinV (hu : X.A.units + 1 < cLine) (hN : X.N[i]? = some x) (hv : Vis X.env.scope x) (ha : AE X a wa) (hd : (x == ("__debug__" : Str)) = false := by decide) (hcd : (x == ("__classdict__" : Str)) = false := by decide) (hm : behindInMarks .In (.Name x pn) = false := by rfl) :
    AE X (.Compare a [.In] [.Name x pn] pos) (wInV D false i wa) :=
  ⟨fun F => PEimp (pe_cmp (pc_din hu (ha.pe F) (pe_var hN hv hd hcd)) hm) (ae_dinV_go D)⟩
theorem at_dinV (hu : X.A.units + 1 < cLine) (hN : X.N[i]? = some x) (hv : Vis X.env.scope x) (ha : AE X a wa) (hd : (x == ("__debug__" : Str)) = false := by decide) (hcd : (x == ("__classdict__" : Str)) = false := by decide) (hm : behindInMarks .In (.Name x pn) = false := by rfl) :
    AT X (.Compare a [.In] [.Name x pn] pos) (wtB (wInV D false i wa)) :=
  ⟨fun F => PTimp (pt_cmp (pc_din hu (ha.pe F) (pe_var hN hv hd hcd)) hm) fun σ H Q h => ae_dinV_go D σ H _ (wtB_go σ H Q h)⟩
theorem ae_dninV_go : ∀ σ H Q, tw F (wInV D true i wa) σ H Q → tDNotIn (tw F wa) (tVar i) σ H Q := fun σ H Q ⟨S, ρ, P, R, hw, q⟩ => ⟨S, ρ, _, R, hw, fun ek ρ2 S2 H2 y h2 e2 R2 r2 => by
    obtain ⟨kvs, k, h1, rfl, hP⟩ := h2
    obtain ⟨a', o', hσ', hH', r'⟩ := R2.dic h1
    obtain ⟨vs, rfl, kv⟩ := D.dich r'
    exact ⟨_, hσ', a', _, rfl, D.get (.inl hH') (D.keyAt R2.sub r2), q _ _ _ _ _ hP e2 R2 (by rw [look_some kv, Bool.true_xor]; exact .bl _)⟩⟩
theorem ae_dninV (hu : X.A.units + 1 < cLine) (hN : X.N[i]? = some x) (hv : Vis X.env.scope x) (ha : AE X a wa) (hd : (x == ("__debug__" : Str)) = false := by decide) (hcd : (x == ("__classdict__" : Str)) = false := by decide) (hm : behindInMarks .NotIn (.Name x pn) = false := by rfl) :
    AE X (.Compare a [.NotIn] [.Name x pn] pos) (wInV D true i wa) :=
  ⟨fun F => PEimp (pe_cmp (pc_dnotin hu (ha.pe F) (pe_var hN hv hd hcd)) hm) (ae_dninV_go D)⟩
theorem at_dninV (hu : X.A.units + 1 < cLine) (hN : X.N[i]? = some x) (hv : Vis X.env.scope x) (ha : AE X a wa) (hd : (x == ("__debug__" : Str)) = false := by decide) (hcd : (x == ("__classdict__" : Str)) = false := by decide) (hm : behindInMarks .NotIn (.Name x pn) = false := by rfl) :
    AT X (.Compare a [.NotIn] [.Name x pn] pos) (wtB (wInV D true i wa)) :=
  ⟨fun F => PTimp (pt_cmp (pc_dnotin hu (ha.pe F) (pe_var hN hv hd hcd)) hm) fun σ H Q h => ae_dninV_go D σ H _ (wtB_go σ H Q h)⟩
def wGet2V (i : Nat) (wk wx : WE) : WE := fun P ρ => (∃ kvs, ρ[i]? = some (.own (.dic (D.enc kvs)))) ∧ wk (fun e ρ1 => wx (fun x ρ2 => ∃ kvs k, ρ2[i]? = some (.own (.dic (D.enc kvs))) ∧ e = D.key k ∧ P ((lookP kvs k).getD x) ρ2) ρ1) ρ
theorem ae_dget2V (hu : X.A.units + 1 < cLine) (hN : X.N[i]? = some x) (hv : Vis X.env.scope x) (hb : AE X b wb) (hc : AE X c wc) (m : M2 X (.Name x pn) "get" apos b c pos) (hd : (x == ("__debug__" : Str)) = false := by decide) (hcd : (x == ("__classdict__" : Str)) = false := by decide) :
    AE X (.Call (.Attribute (.Name x pn) "get" apos) [b, c] [] pos) (wGet2V D i wb wc) :=
  ⟨fun F => PEimp (pe_dget2 hu (pe_var hN hv hd hcd) (hb.pe F) (hc.pe F) m) fun σ H Q ⟨S, ρ, P, R, ⟨⟨d0, h0⟩, hw⟩, q⟩ => by
    obtain ⟨a, o, hσ, hH, r0⟩ := R.dic h0
    obtain ⟨vs0, rfl, kv0⟩ := D.dich r0
    refine ⟨_, hσ, a, rfl, D.isD (.inl hH), S, ρ, _, R, hw, fun ek ρ2 S2 H2 y h2 e2 R2 r2 => ⟨S2, ρ2, _, R2, h2, fun xd ρ3 S3 H3 z h3 e3 R3 r3 => ?_⟩⟩
    obtain ⟨kvs, k, h1, rfl, hP⟩ := h3
    obtain ⟨a', o', hσ', hH', r'⟩ := R3.dic h1
    rw [hσ] at hσ'
    cases hσ'
    obtain ⟨vs, rfl, kv⟩ := D.dich r'
    exact ⟨_, D.get (.inl hH') (D.keyAt R3.sub (rp_mono e3 r2)), q _ _ _ _ _ hP (e2.trans e3) R3 (kv_getD kv r3)⟩⟩
/-- d[k] = v, d owned -/
def wPutD (i : Nat) (wv wk : WE) : WS := fun c ρ => wv (fun v ρ1 => (∃ d, ρ1[i]? = some (.own (.dic d))) ∧ wk (fun e ρ2 => ∃ kvs k, ρ2[i]? = some (.own (.dic (D.enc kvs))) ∧ e = D.key k ∧ kvs.length < sizeLine ∧ c.nx (ρ2.set i (.own (.dic (D.enc (putP kvs k v)))))) ρ1) ρ
theorem as_dput {pos' : Pos} (hu : X.A.units + 1 < cLine) (hN : X.N[i]? = some x) (hv : Vis X.env.scope x) (hk : AE X a wa) (h : AE X e w) (hs : swapsWith e (some (.Subscript (.Name x pn) a pos')) pos.line X.env = pure false := by rfl) (hd : (x == ("__debug__" : Str)) = false := by decide) (hcd : (x == ("__classdict__" : Str)) = false := by decide) :
    AS X (.Assign [.Subscript (.Name x pn) a pos'] e pos) (wPutD D i w wa) :=
  ⟨fun F => PSimp (ps_dput hu (pe_var hN hv hd hcd) (hk.pe F) (h.pe F) hs) fun T σ H ⟨S, ρ, c, R, hw, q, _⟩ => ⟨S, ρ, _, R, hw, fun v ρ1 S1 H1 x h1 e1 R1 r1 => by
    obtain ⟨⟨d0, h0⟩, h1⟩ := h1
    obtain ⟨ad, o, hσ, hH, r0⟩ := R1.dic h0
    refine ⟨_, hσ, S1, ρ1, _, R1, h1, fun ek ρ2 S2 H2 y h2 e2 R2 r2 => ?_⟩
    obtain ⟨kvs, k, h0', rfl, hl, h2⟩ := h2
    obtain ⟨ad', o', hσ', hH', r'⟩ := R2.dic h0'
    rw [hσ] at hσ'
    cases hσ'
    obtain ⟨vs, rfl, kv⟩ := D.dich r'
    exact ⟨ad, _, rfl, D.put hH' (D.keyAt R2.sub r2) (by rw [kv_len kv]; exact hl), q _ _ _ _ h2 (e1.trans e2) (R2.mutDic h0' hσ (D.hdic (kv_put (rp_mono e2 r1) kv)))⟩⟩⟩
/-! len of dicts -/
def wDLen (w : WE) : WE := fun P ρ => w (fun d ρ1 => ∃ kvs, d = D.enc kvs ∧ P (.int (kvs.length : Nat)) ρ1) ρ
theorem ae_dlen (hg : Gl X "len") (hm : X.mg "len" = none) (ha : AE X a wa) (he : starEach (a :: []) X.env = (false, eval a X.env) :: starEach [] X.env := by rfl) (hpl : (backTo pos (starEach [] X.env)).any (·.1) = false := by rfl) :
    AE X (.Call (.Name "len" p) [a] [] pos) (wDLen D wa) :=
  ⟨fun F => PEimp (pe_callB (D.len X) hg hm PySem.boot_len (pa_cons (ha.pe F) pa_nil he) (by decide) (by decide) he hpl) fun σ H Q ⟨S, ρ, P, R, hw, q⟩ => ⟨S, ρ, _, R, hw, fun d ρ1 S1 H1 x h1 e1 R1 r1 => by
    obtain ⟨kvs, rfl, hP⟩ := h1
    obtain ⟨a, vs, rfl, hd, kv⟩ := D.rp r1
    exact ⟨a, vs, rfl, rd_sub R1.sub hd, by rw [kv_len kv]; exact q _ _ _ _ _ hP e1 R1 (.int _)⟩⟩⟩
def wDLenV (i : Nat) : WE := fun P ρ => ∃ kvs, ρ[i]? = some (.own (.dic (D.enc kvs))) ∧ P (.int (kvs.length : Nat)) ρ
theorem ae_dlenV (hN : X.N[i]? = some x) (hv : Vis X.env.scope x) (hg : Gl X "len") (hm : X.mg "len" = none) (hd : (x == ("__debug__" : Str)) = false := by decide) (hcd : (x == ("__classdict__" : Str)) = false := by decide)
    (he : starEach (.Name x pn :: []) X.env = (false, eval (.Name x pn) X.env) :: starEach [] X.env := by rfl) (hpl : (backTo pos (starEach [] X.env)).any (·.1) = false := by rfl) : AE X (.Call (.Name "len" p) [.Name x pn] [] pos) (wDLenV D i) :=
  ⟨fun F => PEimp (pe_callB (D.len X) hg hm PySem.boot_len (pa_cons (pe_var hN hv hd hcd) pa_nil he) (by decide) (by decide) he hpl) fun σ H Q ⟨S, ρ, P, R, ⟨kvs, h0, hP⟩, q⟩ => by
    obtain ⟨a, o, hσ, hH, r⟩ := R.dic h0
    obtain ⟨vs, rfl, kv⟩ := D.dich r
    exact ⟨_, hσ, a, vs, rfl, .inl hH, by rw [kv_len kv]; exact q _ _ _ _ _ hP (Le.refl S) R (.int _)⟩⟩
end
end AL

set_option Elab.async false
set_option linter.all false
set_option maxRecDepth 100000
set_option maxHeartbeats 4000000
namespace AL
open PySem PySem.Spec PyProof.Rows L2
/-! ### dicts walked: the dict is locked where the walk begins, for good -/
/-- the thing a value names may be locked -/
theorem pe_lockv {X : Cx} {e : Expr} {te : TE} (h : PE X e te) : PE X e (fun σ H Q => te σ H fun x H1 => ∃ d u, x = .ref d ∧ Rd H1 d u ∧ isDic u ∧ ∀ od, (H1 d = some (.frz od u) → Q x H1) ∧ (H1 d = some u → Q x (upd H1 d (.frz od u)))) := by
  refine ⟨fun pins s σ H Q I hw => thn (h.run pins s σ H _ I hw) fun v s1 ⟨x, H1, I1, r, d, u, ex, hd, isd, q⟩ => ?_⟩
  rcases hd with hd | ⟨od, hd⟩
  · have mu : Mut (some u) := by cases u <;> first | exact True.intro | exact isd.elim
    obtain ⟨od, I2⟩ := I1.lock hd mu
    exact ⟨x, _, I2, r, (q od).2 hd⟩
  · exact ⟨x, _, I1, r, (q od).1 hd⟩
theorem rel_lock {F S H : Hp} {σ : L2.St} {ρ : AEnv} {d : Addr} {u : HO} {od : Obj} (R : Rel F S σ H ρ) (hS : S d = some u) (isd : isDic u) : Le S (upd S d (.frz od u)) ∧ Rel F (upd S d (.frz od u)) σ (upd H d (.frz od u)) ρ := by
  have e : Le S (upd S d (.frz od u)) := fun a o h => by
    by_cases z : a = d
    · subst z; rw [hS] at h; cases h; exact .inr ⟨isd, od, upd_same⟩
    · exact .inl (by rw [upd_ne z]; exact h)
  refine ⟨e, ?_⟩
  obtain ⟨fp, R⟩ := R
  refine ⟨fp, R.step e (fun a o h => ?_) (fun a o h => ?_) (fun i b hb => ?_) ⟨fun a o h => ?_, R.apt.2⟩⟩
  · by_cases z : a = d
    · subst z; rw [upd_same] at h ⊢; exact h
    · rw [upd_ne z] at h ⊢; exact R.sub _ _ h
  · have z : a ≠ d := fun z => by rw [← z, R.apt.1 a o h] at hS; cases hS
    rw [upd_ne z]; exact R.frm _ _ h
  · have z : b ≠ d := fun z => by rw [← z, (R.out i b hb).1] at hS; cases hS
    rw [upd_ne z, upd_ne z]; exact ⟨rfl, (R.out i b hb).1⟩
  · have z : a ≠ d := fun z => by rw [← z, R.apt.1 a o h] at hS; cases hS
    rw [upd_ne z]; exact R.apt.1 _ _ h
section
variable (D : DKind)
def Itk' (d : Addr) (o : Obj) (kvs : List (D.κ × V)) : It :=
  ⟨fun i H => H d = some (.frz o (D.ho kvs)) ∧ i < kvs.length, fun i H x H' => H' = H ∧ ∃ k v, kvs[i]? = some (k, v) ∧ D.kat H k x, fun i H => H d = some (.frz o (D.ho kvs)) ∧ kvs.length ≤ i⟩
def Iti' (d : Addr) (o : Obj) (kvs : List (D.κ × V)) : It :=
  ⟨fun i H => H d = some (.frz o (D.ho kvs)) ∧ i < kvs.length, fun i H x H' => ∃ T k y v, kvs[i]? = some (k, v) ∧ D.kat H k y ∧ x = .ref T ∧ H T = none ∧ H' = upd H T (.tup [y, v]), fun i H => H d = some (.frz o (D.ho kvs)) ∧ kvs.length ≤ i⟩
/-- the raw dict of a locked one -/
theorem raw_frz {X : Cx} {pins : List (Addr × Obj)} {σ : L2.St} {H : Hp} {s : Shared} {d : Addr} {o : Obj} {kvs : List (D.κ × V)} (I : L2.Inv X pins σ H s) (h : H d = some (.frz o (D.ho kvs))) :
    kvs.length ≤ sizeLine ∧ (d == sysModules) = false ∧ s.heap.get? d = some o ∧ o.ExactDict ∧ ∃ (es : Array DictEntry) (ep : Nat), o.data = .dict es ep ∧ es.size = kvs.length ∧
      ∀ (i : Nat) (k : D.κ) (v : V), kvs[i]? = some (k, v) → ∃ (en : DictEntry) (y : V), es[i]? = some en ∧ D.kat H k y ∧ RelV y en.key ∧ RelV v en.val := by
  obtain ⟨z, hs, o', es, ep, ho, hx, hdt, r⟩ := D.raw I (.inr ⟨o, h⟩)
  obtain ⟨hd, _⟩ := (show ObjOk X.prog X.w H s.heap d (.frz o (D.ho kvs)) from I.hok d _ h)
  rw [hd] at ho
  cases ho
  exact ⟨z, hs, hd, hx, es, ep, hdt, r⟩
theorem turn_keys' {P : Program} {w : World} {K : PySem.W.Frag} {tg : Expr} {d : Addr} {o : Obj} {es : Array DictEntry} {ep : Nat} {kvs : List (D.κ × V)} (it : Addr) (hod : o.data = .dict es ep) : Turn P w K tg (Itk' D d o kvs) [it] it (fun i h => h.IsKeyIter it d i kvs.length ep) where
  mem := List.mem_singleton_self it
  obj := fun i h st b hb => by
    rw [List.mem_singleton] at hb
    subst hb
    obtain ⟨oi, e, c, dd⟩ := st
    exact ⟨oi, e, fun v z => by rw [dd] at z; cases z⟩
  keep := fun i h h' st k => st.at fun oi e => k it (List.mem_singleton_self it) oi e
  item := by
    intro X hP hw hK hc i pins s σ H E I hf st hg
    subst hP hw hK
    obtain ⟨hd, hi⟩ := hg
    obtain ⟨f0, f1, f2, f3, f4, f5⟩ := hf it (List.mem_singleton_self it)
    obtain ⟨z, hs, hgd, hx, es', ep', hdt, hsz, ent⟩ := raw_frz D I hd
    obtain ⟨rfl, rfl⟩ := dict_ep hod hdt
    obtain ⟨en, y, hen, hq, hkey, hval⟩ := ent i kvs[i].1 kvs[i].2 (List.getElem?_eq_getElem hi)
    refine next_key_item st hgd hdt hsz hen fun h' st' sb => ?_
    have I1 : L2.Inv X pins σ H { s with heap := h' } := I.turned (t' := s.toks) (fun b ob hb e => (sb.2 b hb).trans e) f0 f1 f3 f4 f5
    obtain ⟨oi, e, c, dd⟩ := id st'
    exact ⟨en.key, rfl, go_of (s := { s with heap := h' }) e c dd (by decide) ⟨y, H, I1, hkey, ⟨rfl, _, _, List.getElem?_eq_getElem hi, hq⟩, st', fun b hb => (hf b hb).1⟩⟩
  done := by
    intro X hP hw hK hc i pins s σ H E I hf st hg
    subst hP hw hK
    obtain ⟨hd, hi⟩ := hg
    obtain ⟨f0, f1, f2, f3, f4, f5⟩ := hf it (List.mem_singleton_self it)
    obtain ⟨z, hs, hgd, hx, es', ep', hdt, hsz, ent⟩ := raw_frz D I hd
    obtain ⟨rfl, rfl⟩ := dict_ep hod hdt
    exact next_key_end (I.ok.hd hc) st hgd hdt hsz hi fun h' eb => ⟨rfl, I.turned (t' := s.toks) (fun b ob hb e => eb b ob hb e) f0 f1 f3 f4 f5⟩
  self := fun A i s Q E st h => by
    refine wpAny_pyIter_slot st.typeIs F.slot_dict_keyiterator_iter (wpAny_call_entry F.slot_dict_keyiterator_iter st.typeIs F.entry_dict_keyiterator_iter ?_ (F.args_dict_keyiterator_iter_1 _))
    exact wpAny_pure ⟨_, rfl, "dict_keyiterator", _, st.typeIs, F.slot_dict_keyiterator_next.lookup, h⟩
theorem turn_items' {P : Program} {w : World} {K : PySem.W.Frag} {d : Addr} {o : Obj} {es : Array DictEntry} {ep : Nat} {kvs : List (D.κ × V)} {elts : List Expr} {kk : Nat} {tpos : Pos} (it : Addr) (hod : o.data = .dict es ep) :
    Turn P w K (.Tuple elts kk tpos) (Iti' D d o kvs) [it] it (fun i h => ∃ ok ov, IsItemIter h it d i kvs.length ep ok ov) where
  mem := List.mem_singleton_self it
  obj := fun i h st b hb => by
    rw [List.mem_singleton] at hb
    subst hb
    obtain ⟨ok, ov, e⟩ := st
    exact ⟨_, e, fun v z => by cases z⟩
  keep := fun i h h' st k => let ⟨ok, ov, e⟩ := st; ⟨ok, ov, k it (List.mem_singleton_self it) _ e⟩
  item := by
    intro X hP hw hK hc i pins s σ H E I hf st hg
    subst hP hw hK
    obtain ⟨hd, hi⟩ := hg
    obtain ⟨z, hs, hgd, hx, es', ep', hdt, hsz, ent⟩ := raw_frz D I hd
    obtain ⟨rfl, rfl⟩ := dict_ep hod hdt
    obtain ⟨en, y, hen, hq, hkey, hval⟩ := ent i kvs[i].1 kvs[i].2 (List.getElem?_eq_getElem hi)
    obtain ⟨ok, ov, he⟩ := st
    rw [← hsz] at he
    have hlt : it < s.heap.objs.size := Heap.lt_size he
    have hi' : i < es'.size := by omega
    have een : en = es'[i] := by rw [Array.getElem?_eq_getElem hi'] at hen; exact (Option.some.inj hen).symm
    subst een
    refine wpAny_pyNext_items_item_raw he ⟨o, hgd, hx, hdt⟩ hi' fun h' ho hT hz hk => ?_
    refine ⟨_, rfl, wpAny_letOwnedTupleGo_items (s := { s with heap := h' }) ho fun h'' he' sb => ?_⟩
    have hT2 : h''.get? s.heap.objs.size = some { cls := .type "tuple", data := .seq #[es'[i].key, es'[i].val] } := (sb.2 _ (Nat.ne_of_gt hlt)).trans hT
    have new : ObjOk X.prog X.w (upd H s.heap.objs.size (.tup [y, kvs[i].2])) h'' s.heap.objs.size (.tup [y, kvs[i].2]) :=
      ⟨by show 2 ≤ sizeLine; decide, [es'[i].key, es'[i].val], .cons hkey (.cons hval .nil), ⟨_, hT2, rfl, _, rfl⟩⟩
    have I1 : L2.Inv X pins σ (upd H s.heap.objs.size (.tup [y, kvs[i].2])) { s with heap := h'' } :=
      I.turnedNew (t' := s.toks) (ch := [it]) (fun b ob hb e => (sb.2 b (by simpa using hb)).trans (hk b ob (by simpa using hb) e)) hf (Nat.le_refl _) new
    refine ⟨.ref s.heap.objs.size, _, I1, rfl, ⟨_, _, y, _, List.getElem?_eq_getElem hi, hq, rfl, I.hok.fresh (Nat.le_refl _), rfl⟩, ⟨_, _, by rw [← hsz]; exact he'⟩, fun b hb => ?_⟩
    rw [List.mem_singleton] at hb
    rw [hb, upd_ne (Nat.ne_of_lt hlt)]
    exact (hf it (List.mem_singleton_self it)).1
  done := by
    intro X hP hw hK hc i pins s σ H E I hf st hg
    subst hP hw hK
    obtain ⟨hd, hi⟩ := hg
    obtain ⟨f0, f1, f2, f3, f4, f5⟩ := hf it (List.mem_singleton_self it)
    obtain ⟨z, hs, hgd, hx, es', ep', hdt, hsz, ent⟩ := raw_frz D I hd
    obtain ⟨rfl, rfl⟩ := dict_ep hod hdt
    obtain ⟨ok, ov, he⟩ := st
    rw [← hsz] at he
    exact wpAny_pyNext_items_end_raw (I.ok.hd hc) he ⟨o, hgd, hx, hdt⟩ (by omega) fun h' eb => ⟨rfl, I.turned (t' := s.toks) (fun b ob hb e => eb b ob hb e) f0 f1 f3 f4 f5⟩
  self := fun A i s Q E st h => let ⟨_, _, e⟩ := st; wpAny_pyIter_itemiter e h
theorem kv_get' {κ : Type} {S : Hp} {vs : List (κ × V)} {ds : List (κ × PyData)} (h : KvRel S vs ds) {i : Nat} {k : κ} {v : V} (e : vs[i]? = some (k, v)) : ∃ d, ds[i]? = some (k, d) ∧ Rp S v d := by
  obtain ⟨⟨k', d⟩, hd, e1, r⟩ := paired_get h e
  obtain rfl : k = k' := e1
  exact ⟨d, hd, r⟩
theorem kv_lt {κ : Type} {S : Hp} {vs : List (κ × V)} {ds : List (κ × PyData)} (h : KvRel S vs ds) : vs.length = ds.length := kv_len h
theorem itk_ok {d : Addr} {o : Obj} {vs : List (D.κ × V)} {kvs : List (D.κ × PyData)} {S : Hp} (h : S d = some (.frz o (D.ho vs))) (kv : KvRel S vs kvs) : ItOk (Itk' D d o vs) S (kvs.map fun p => D.key p.1) := fun i F S1 σ H ρ e R => by
  have hH : H d = some (.frz o (D.ho vs)) := R.sub _ _ ((e _ _ h).elim (fun h => h) fun h => h.1.elim)
  refine ⟨fun dd hdd => ?_, fun hle => ⟨hH, by rw [List.length_map] at hle; rw [kv_len kv]; exact hle⟩⟩
  rw [List.getElem?_map] at hdd
  obtain ⟨p, hp, rfl⟩ := Option.map_eq_some_iff.mp hdd
  have hi : i < vs.length := by rw [kv_len kv]; exact (List.getElem?_eq_some_iff.mp hp).1
  refine ⟨⟨hH, hi⟩, fun x H' hy => ?_⟩
  obtain ⟨rfl, k, v, hk, hx⟩ := hy
  obtain ⟨dv, hdv, _⟩ := kv_get' kv hk
  rw [hp] at hdv
  cases hdv
  exact D.keyRp R hx
theorem iti_ok {d : Addr} {o : Obj} {vs : List (D.κ × V)} {kvs : List (D.κ × PyData)} {S : Hp} (h : S d = some (.frz o (D.ho vs))) (kv : KvRel S vs kvs) : ItOk (Iti' D d o vs) S (kvs.map fun p => .tuple [D.key p.1, p.2]) := fun i F S1 σ H ρ e R => by
  have hH : H d = some (.frz o (D.ho vs)) := R.sub _ _ ((e _ _ h).elim (fun h => h) fun h => h.1.elim)
  refine ⟨fun dd hdd => ?_, fun hle => ⟨hH, by rw [List.length_map] at hle; rw [kv_len kv]; exact hle⟩⟩
  rw [List.getElem?_map] at hdd
  obtain ⟨p, hp, rfl⟩ := Option.map_eq_some_iff.mp hdd
  have hi : i < vs.length := by rw [kv_len kv]; exact (List.getElem?_eq_some_iff.mp hp).1
  refine ⟨⟨hH, hi⟩, fun x H' hy => ?_⟩
  obtain ⟨T, k, y, v, hk, hx, rfl, hT, rfl⟩ := hy
  obtain ⟨dv, hdv, rv⟩ := kv_get' kv hk
  rw [hp] at hdv
  cases hdv
  obtain ⟨S2, e2, R2, r2⟩ := D.keyRp R hx
  exact ⟨_, e2.trans (le_new (none_sub R2.sub hT)), R2.new hT _, .tup upd_same (.cons (rp_mono (le_new (none_sub R2.sub hT)) r2) (.cons (rp_mono (e.trans (e2.trans (le_new (none_sub R2.sub hT)))) rv) .nil))⟩
def wiK (w : WE) : WI := fun P ρ => w (fun d ρ' => ∃ kvs, d = D.enc kvs ∧ P (kvs.map fun p => D.key p.1) ρ') ρ
def wiI (w : WE) : WI := fun P ρ => w (fun d ρ' => ∃ kvs, d = D.enc kvs ∧ P (kvs.map fun p => .tuple [D.key p.1, p.2]) ρ') ρ
section
variable {X : Cx} {F : Hp} {w : WE} {tg e : Expr} {apos pos : Pos}
/-- what the lock gives -/
theorem lock_go {P : List PyData → AEnv → Prop} {J : Addr → Obj → List (D.κ × V) → It} {f : (D.κ × PyData) → PyData} (ok : ∀ {d : Addr} {o : Obj} {vs : List (D.κ × V)} {kvs : List (D.κ × PyData)} {S : Hp}, S d = some (.frz o (D.ho vs)) → KvRel S vs kvs → ItOk (J d o vs) S (kvs.map f)) :
    ∀ σ H R, twi F (fun P ρ => w (fun d ρ' => ∃ kvs, d = D.enc kvs ∧ P (kvs.map f) ρ') ρ) σ H R →
    tw F w σ H (fun x H1 => ∃ d u, x = .ref d ∧ Rd H1 d u ∧ isDic u ∧ ∀ od, (H1 d = some (.frz od u) → ∃ d' o vs, x = .ref d' ∧ H1 d' = some (.frz o (D.ho vs)) ∧ R (J d' o vs) H1) ∧
      (H1 d = some u → ∃ d' o vs, x = .ref d' ∧ (upd H1 d (.frz od u)) d' = some (.frz o (D.ho vs)) ∧ R (J d' o vs) (upd H1 d (.frz od u)))) := fun σ H R ⟨S, ρ, P, hR, hw, q⟩ => ⟨S, ρ, _, hR, hw, fun dd ρ' S' H' v hP e1 R1 r1 => by
  obtain ⟨kvs, rfl, hP⟩ := hP
  obtain ⟨d, vs, rfl, hd, kv⟩ := D.rp r1
  refine ⟨d, _, rfl, rd_sub R1.sub hd, D.isd vs, fun od => ⟨fun hf => ?_, fun hu => ?_⟩⟩
  · refine ⟨d, od, vs, rfl, hf, q _ _ S' _ _ hP e1 R1 (ok ?_ kv)⟩
    rcases hd with hd | ⟨o', hd⟩
    · exfalso
      have h2 := R1.sub _ _ hd
      rw [hf] at h2
      have h3 := D.isd vs
      rw [← Option.some.inj h2] at h3
      exact h3.elim
    · have := R1.sub _ _ hd
      rw [hf] at this
      cases this
      exact hd
  · have hS : S' d = some (D.ho vs) := by
      rcases hd with hd | ⟨o', hd⟩
      · exact hd
      · have h2 := R1.sub _ _ hd
        rw [hu] at h2
        have h3 := D.isd vs
        rw [Option.some.inj h2] at h3
        exact h3.elim
    obtain ⟨e2, R2⟩ := rel_lock (od := od) R1 hS (D.isd vs)
    exact ⟨d, od, vs, rfl, upd_same, q _ _ _ _ _ hP (e1.trans e2) R2 (ok upd_same (by
      have : ∀ {vs : List (D.κ × V)} {kvs : List (D.κ × PyData)}, KvRel S' vs kvs → KvRel (upd S' d (.frz od (D.ho _))) vs kvs := fun h => paired_mem h fun x y _ ⟨h1, h2⟩ => ⟨h1, rp_mono e2 h2⟩
      exact this kv))⟩⟩
theorem ai_keys (h : AE X e w) : AI X tg e (wiK D w) := by
  refine ⟨fun F => ⟨fun pins s σ H R I hw => ?_⟩⟩
  have hw' := lock_go (F := F) D (P := fun _ _ => True) (J := Itk' D) (f := fun p => D.key p.1) (w := w) (fun h kv => itk_ok D h kv) σ H R hw
  refine thn ((pe_lockv (h.pe F)).run pins s σ H (fun x H1 => ∃ d o vs, x = .ref d ∧ H1 d = some (.frz o (D.ho vs)) ∧ R (Itk' D d o vs) H1) I hw') fun u s1 ⟨x, H1, I1, rx, d, o, vs, ex, hd, q⟩ => ?_
  subst ex
  obtain rfl : u = Value.ref d := rx
  obtain ⟨z, hs, hgd, hx, es, ep, hdt, hsz, ent⟩ := raw_frz D I1 hd
  refine iter_keys hs hgd hx hdt (pi_one (tk := s1.toks) I1 _ (turn_keys' D _ hdt) ⟨_, Heap.get?_push_size _ rfl, rfl, ?_⟩ q)
  rw [hsz]; rfl
theorem ai_items {elts : List Expr} {kk : Nat} {tpos : Pos} (h : AE X e w) (hbase : attributeBase e "items" X.env (eval e X.env) = eval e X.env := by rfl) (hline : (apos.endLine == pos.line) = true := by rfl) :
    AI X (.Tuple elts kk tpos) (.Call (.Attribute e "items" apos) [] [] pos) (wiI D w) := by
  refine ⟨fun F => ⟨fun pins s σ H R I hw => ?_⟩⟩
  have hw' := lock_go (F := F) D (P := fun _ _ => True) (J := Iti' D) (f := fun p => .tuple [D.key p.1, p.2]) (w := w) (fun h kv => iti_ok D h kv) σ H R hw
  refine wpAny_Call_method (T := "dict") (id := "dict.items") hbase rfl hline PySem.F.plainAttrs_dict PySem.F.slot_dict_items PySem.F.type_dict_items (thn ((pe_lockv (h.pe F)).run pins s σ H (fun x H1 => ∃ d o vs, x = .ref d ∧ H1 d = some (.frz o (D.ho vs)) ∧ R (Iti' D d o vs) H1) I hw') fun u s1 ⟨x, H1, I1, rx, d, o, vs, ex, hd, q⟩ => ?_)
  subst ex
  obtain rfl : u = Value.ref d := rx
  obtain ⟨z, hs, hgd, hx, es, ep, hdt, hsz, ent⟩ := raw_frz D I1 hd
  have hm : s1.heap.DictRaw d es ep := ⟨o, hgd, hx, hdt⟩
  refine ⟨hm.typeIs, fun b eb => ?_, ?_⟩
  · cases eb
    exact ⟨o, hgd, hx.2.1⟩
  have I2 : L2.Inv X pins σ H1 { s1 with heap := s1.heap.push { cls := .type "dict_items", data := .fields #[.ref d] } } := I1.kept (t' := s1.toks) fun b ob q => Heap.get?_push_of_some _ q
  have hm2 : (s1.heap.push { cls := .type "dict_items", data := .fields #[.ref d] }).DictRaw d es ep := hm.at fun o e => Heap.get?_push_of_some _ e
  have fin : wpAny (model X.prog X.w) X.A (pyIter (.ref s1.heap.objs.size)) (PIE X pins σ (.Tuple elts kk tpos) R) X.xe { s1 with heap := s1.heap.push { cls := .type "dict_items", data := .fields #[.ref d] } } := by
    refine wpAny_pyIter_items_raw (d := d) (es := es) (ep := ep) ⟨_, Heap.get?_push_size _ rfl, rfl, rfl⟩ hm2 (pi_one (tk := s1.toks) I2 _ (turn_items' D _ hdt) ⟨.none, .none, ?_⟩ q)
    rw [← hsz]
    exact Heap.get?_push_size _ rfl
  show wpAny _ _ (callWith pos (.builtin "dict.items") [.ref d] [] []) _ X.xe s1
  exact method_meetsIn PySem.F.slot_dict_items PySem.F.entry_dict_items rfl (PySem.evalArgs_none ⟨rfl, hm.typeIs, PySem.F.args_dict_items_1 _, _, meets_dict_items_raw d hs, ⟨⟨es, ep, hm⟩, fin⟩⟩)
end
end
end AL

set_option Elab.async false
set_option linter.all false
set_option maxRecDepth 100000
set_option maxHeartbeats 4000000
namespace AL
open PySem PySem.Spec PyProof.Rows L2
/-! ### sorted(d) -/
section
variable (D : DKind) {X : Cx}
def rSortK : List V → Hp → VK → Prop := fun xs H Q => ∃ (a : Addr) (kvs : List (D.κ × V)), xs = [V.ref a] ∧ Rd H a (D.ho kvs) ∧ srtOk (kvs.map fun p => D.key p.1) ∧
  ∀ (ys : List V) (p : Addr), Paired (fun (z : D.κ × V) y => D.kat H z.1 y) kvs ys → H p = none → Q (.ref p) (upd H p (.lst (((ys.zip (kvs.map fun p => D.key p.1)).mergeSort (PySem.W.dataLe false fun z => z.2)).map fun z => z.1)))
theorem keys_vals {H : Hp} : ∀ {kvs : List (D.κ × V)} {us : List Value}, us.length = kvs.length → (∀ (i : Nat) (k : D.κ) (v : V), kvs[i]? = some (k, v) → ∃ (u : Value) (y : V), us[i]? = some u ∧ D.kat H k y ∧ RelV y u) →
    ∃ ys : List V, Paired (fun (z : D.κ × V) y => D.kat H z.1 y) kvs ys ∧ Vals ys us
  | [], [], _, _ => ⟨[], .nil, .nil⟩
  | (k, v) :: kvs, u :: us, hl, h => by
    obtain ⟨u', y, e, hk, r⟩ := h 0 k v rfl
    cases e
    obtain ⟨ys, p, vv⟩ := keys_vals (kvs := kvs) (us := us) (by simpa using hl) fun i k v e => h (i + 1) k v (by simpa using e)
    exact ⟨y :: ys, .cons hk p, .cons r vv⟩
theorem keys_reads {pins : List (Addr × Obj)} {σ : L2.St} {H : Hp} {s : Shared} (I : L2.Inv X pins σ H s) : ∀ {kvs : List (D.κ × V)} {ys : List V} {us : List Value}, Paired (fun (z : D.κ × V) y => D.kat H z.1 y) kvs ys → Vals ys us →
    PySem.W.EachIs (fun u (z : V × PyData) => Reads s.heap u z.2 []) us (ys.zip (kvs.map fun p => D.key p.1))
  | _, _, _, .nil, .nil => .nil
  | _, _, _, .cons h t, .cons r rr => .cons (D.rd I h r) (keys_reads I t rr)
theorem call_sortK {k : Nat} (gd : Gd X k) (hc : X.calm = true) : CallR X (.builtin "sorted") (rSortK D) := by
  intro pins s σ H xs us Q I r q
  obtain ⟨a, kvs, rfl, hd, ⟨hal, hk, hdep⟩, q⟩ := q
  obtain ⟨u, rfl, ru⟩ := vals1 r
  obtain rfl : u = Value.ref a := ru
  obtain ⟨hz, hs, o, es, ep, ho, hx, hdt, hsz, ent⟩ := D.raw I hd
  have un := gd.room.un
  refine Calls.call_function_entry PyProof.Rows.kind_sorted PyProof.Rows.plain_sorted PyProof.Rows.entry_sorted (PyProof.Rows.args_sorted1 _) ?_
  unfold Builtin.«sorted»
  refine wpAny_bind (m := checkCount "sorted" 1 1 _) (wpAny_pure ?_)
  refine wpAny_bind (PySem.W.kdu_collect (A := X.A.in1) (kdl_raw hs hx hdt) (I.ok.hd hc) ho (by omega) fun h' tk acc hkp hacc => ?_)
  have hla : acc.toList.length = kvs.length := by rw [Array.length_toList, hacc.1, hsz]
  obtain ⟨ys, kp, vv⟩ := keys_vals D (H := H) (kvs := kvs) (us := acc.toList) hla fun i k v e => by
    obtain ⟨en, y, hen, hq, hkey, hval⟩ := ent i k v e
    have hi : i < acc.size := by have := (List.getElem?_eq_some_iff.mp e).1; rw [Array.length_toList] at hla; omega
    obtain ⟨en', h1, h2⟩ := hacc.2 i acc[i] (Array.getElem?_eq_getElem hi)
    rw [hen] at h1
    cases h1
    exact ⟨acc[i], y, by rw [Array.getElem?_toList]; exact Array.getElem?_eq_getElem hi, hq, by rw [h2]; exact hkey⟩
  have I1 : L2.Inv X pins σ H { s with heap := h', toks := tk } := I.kept hkp
  have hly : ys.length = kvs.length := (Paired.length kp).symm
  have hld : ys.length = (kvs.map fun p => D.key p.1).length := by rw [List.length_map]; exact hly
  refine wpAny_bind (wpAny_newList ?_ (by rw [hla]; exact hz))
  have hoL : (h'.push (seqObj "list" acc.toList.toArray 0)).get? h'.objs.size = some (seqObj "list" acc.toList.toArray 0) := Heap.get?_push_size _ rfl
  show wpAny _ _ _ _ _ { s with heap := h'.push (seqObj "list" acc.toList.toArray 0), toks := tk }
  refine wpAny_bind (wpAny_holding (PySem.W.list_sort_data (s := { s with heap := h'.push (seqObj "list" acc.toList.toArray 0), toks := tk }) (R := fun u (z : V × PyData) => RelV z.1 u) (enc := fun z => z.2) (bs := ys.zip (kvs.map fun p => D.key p.1)) hoL
    (each_of_vals (R := fun _ _ => True) vv hld) ((keys_reads D I1 kp vv).mono fun u z r => ⟨[], Reads.keeps (fun b o e => Heap.get?_push_of_some _ e) r, fun z => by cases z⟩)
    (by rw [zip_snd hld]; exact hal) (by rw [zip_snd hld]; exact hk) (by rw [List.length_zip]; omega) (fun b hb => ?_) fun out ho' eo => ?_))
  · have := hdep b.2 (List.of_mem_zip hb).2
    show X.A.units + 1 + 1 + b.2.depth < cLine
    omega
  · obtain ⟨e', he'⟩ := PyProof.Rows.sortedHeap_at (out := out.toArray) hoL
    have hlen : (((ys.zip (kvs.map fun p => D.key p.1)).mergeSort (PySem.W.dataLe false fun z => z.2)).map fun z => z.1).length ≤ sizeLine := by
      rw [List.length_map, List.length_mergeSort, List.length_zip]; omega
    have hp : H h'.objs.size = none := I1.hok.fresh (Nat.le_refl _)
    refine wpAny_pure ⟨_, rfl, .ref h'.objs.size, _, I1.laid (t' := tk) (fun b u e => ?_) (Nat.le_refl _) (show ObjOk X.prog X.w _ _ _ (.lst _) from ⟨hlen, out, e', vals_of_each eo, he'⟩), rfl, q ys _ kp hp⟩
    have hb : b < h'.objs.size := Heap.lt_size e
    rw [PyProof.Rows.sortedHeap_old (Nat.ne_of_lt hb) (by rw [size_push']; exact Nat.lt_succ_of_lt hb)]
    exact Heap.get?_push_of_some _ e
theorem rel_keys {F H : Hp} {σ : L2.St} {ρ : AEnv} : ∀ {kvs : List (D.κ × V)} {ys : List V} {S : Hp}, Rel F S σ H ρ → Paired (fun (z : D.κ × V) y => D.kat H z.1 y) kvs ys → ∃ S', Le S S' ∧ Rel F S' σ H ρ ∧ RpAll S' ys (kvs.map fun p => D.key p.1)
  | _, _, S, R, .nil => ⟨S, Le.refl S, R, .nil⟩
  | _, _, S, R, .cons h t => by
    obtain ⟨S1, e1, R1, r1⟩ := D.keyRp R h
    obtain ⟨S2, e2, R2, r2⟩ := rel_keys R1 t
    exact ⟨S2, e1.trans e2, R2, .cons (rp_mono e2 r1) r2⟩
theorem kv_keys {S : Hp} : ∀ {vs : List (D.κ × V)} {kvs : List (D.κ × PyData)}, KvRel S vs kvs → (vs.map fun p => D.key p.1) = kvs.map fun p => D.key p.1
  | _, _, .nil => rfl
  | _, _, .cons ⟨h, _⟩ t => by rw [List.map_cons, List.map_cons, h, kv_keys t]
def sortKD : PyData → (MO → Prop) → Prop := fun d P => ∃ kvs, d = D.enc kvs ∧ srtOk (kvs.map fun p => D.key p.1) ∧ P (.lst (sortedBy (kvs.map fun p => D.key p.1)))
theorem opO_sortK : OpO (rSortK D) (sortKD D) := by
  intro F S σ H ρ x d P Q R r h q
  obtain ⟨kvs, rfl, ok, hP⟩ := h
  obtain ⟨a, vs, rfl, hd, kv⟩ := D.rp r
  refine ⟨a, vs, rfl, rd_sub R.sub hd, by rw [kv_keys D kv]; exact ok, fun ys p kp hp => ?_⟩
  obtain ⟨S', e1, R1, r1⟩ := rel_keys D R kp
  rw [kv_keys D kv] at r1 ⊢
  exact q _ _ _ _ hP e1 (new_lst R1 hp (rps_sorted r1))
theorem ao_sortedK {k : Nat} {a : Expr} {p pos : Pos} {w : WE} (gd : Gd X k) (hc : X.calm = true) (hg : Gl X "sorted") (hm : X.mg "sorted" = none) (ha : AE X a w) (he : starEach (a :: []) X.env = (false, eval a X.env) :: starEach [] X.env := by rfl) (hpl : (backTo pos (starEach [] X.env)).any (·.1) = false := by rfl) :
    AO X (.Call (.Name "sorted" p) [a] [] pos) (wUnO (sortKD D) w) := ao_blt (call_sortK D gd hc) (opO_sortK D) hg hm (by decide +kernel) ha (by decide) (by decide) he hpl
end
end AL

set_option Elab.async false
set_option linter.all false
set_option maxRecDepth 100000
set_option maxHeartbeats 4000000
namespace AL
open PySem PySem.Spec PyProof.Rows L2
/-! ### d == {} -/
section
variable {prog : Program} {w : World} {A : Around} {E : Value → Shared → Prop} {s : Shared}
theorem samePairs_nil {nm : String} {a b : Addr} {es : Array DictEntry} {ep ep' : Nat} {Q : Bool → Shared → Prop} (ha : (a == sysModules) = false) (hb : (b == sysModules) = false)
    (da : s.heap.DictRaw a es ep) (db : s.heap.DictRaw b #[] ep') (h : Q (es.size == 0) s) : wpAny (model prog w) A (Builtin.Dict.samePairs nm a b) Q E s := by
  obtain ⟨oa, hoa, _, hda⟩ := da
  obtain ⟨ob, hob, _, hdb⟩ := db
  unfold Builtin.Dict.samePairs Builtin.Dict.showsAll
  rw [if_neg (show ¬ (a == sysModules) = true by rw [ha]; simp), if_neg (show ¬ (b == sysModules) = true by rw [hb]; simp)]
  refine wpAny_bind (wpAny_pure (wpAny_bind (wpAny_pure ?_)))
  refine wpAny_bind (wpAny_dictEntries hoa hda ?_)
  dsimp only
  refine wpAny_bind (wpAny_dictEntries hob hdb ?_)
  by_cases hsz : es.size = 0
  · have e : es = #[] := Array.eq_empty_of_size_eq_zero hsz
    subst e
    rw [if_neg (by simp)]
    refine wpAny_bind (wpAny_dictEpoch hoa hda ?_)
    refine wpAny_bind ?_
    rw [show ([:(#[] : Array DictEntry).size] : Std.Legacy.Range) = [:0] from rfl]
    rw [Std.Legacy.Range.forIn_eq_forIn_range']
    exact wpAny_pure (wpAny_pure h)
  · have e2 : (es.size == 0) = false := by simpa using hsz
    rw [if_pos (by simpa using hsz)]
    rw [e2] at h
    exact wpAny_bind (wpAny_rule (wpAny_pure h))
theorem dict_eq_nil {a b : Addr} {es : Array DictEntry} {ep ep' : Nat} {Q : Value → Shared → Prop} (ha : (a == sysModules) = false) (hb : (b == sysModules) = false)
    (da : s.heap.DictRaw a es ep) (db : s.heap.DictRaw b #[] ep') (hu : A.units < cLine) (h : Q (.bool (es.size == 0)) s) : wpAny (model prog w) A (compareOp .Eq (.ref a) (.ref b)) Q E s := by
  refine wpAny_richCompare_same_room (op := .Eq) da.typeIs db.typeIs PySem.F.slot_dict_eq (wpAny_call_entry PySem.F.slot_dict_eq da.typeIs PySem.F.entry_dict_eq ?_ (PySem.F.args_dict_eq_2 _ _)) hu
  refine wpAny_bind (m := Builtin.Dict.dictSlotArgs "__eq__" ⟨[.ref a, .ref b], []⟩) ?_
  unfold Builtin.Dict.dictSlotArgs
  refine wpAny_bind (wpAny_notOrdered_dict da.typeIs ?_)
  refine wpAny_pure (a := (Value.ref a, Value.ref b)) ?_
  refine wpAny_bind (wpAny_isInstance (T := "dict") db.typeIs PySem.F.sub_dict_dict ?_)
  simp only [Bool.not_true, Bool.false_eq_true, if_false]
  refine wpAny_bind (wpAny_pure (wpAny_bind (wpAny_pure ?_)))
  refine wpAny_bind (samePairs_nil ha hb da db ?_)
  exact wpAny_pure ⟨_, rfl, (fun x => nomatch x), by simpa using h⟩
end
section
variable (D : DKind) {X : Cx} {a : Expr} {wa : WE} {pos p2 : Pos}
def rEqNil : R2 := fun x y H Q => ∃ a b kvs, x = V.ref a ∧ y = V.ref b ∧ Rd H a (D.ho kvs) ∧ Rd H b (D.ho []) ∧ Q (.bl kvs.isEmpty) H
theorem op_eqNil (hu : X.A.units < cLine) : OpR X (compareOp .Eq) (rEqNil D) := by
  intro pins s σ H x y v u Q I rx ry h
  obtain ⟨a, b, kvs, rfl, rfl, ea, eb, q⟩ := h
  obtain rfl : v = Value.ref a := rx
  obtain rfl : u = Value.ref b := ry
  obtain ⟨_, hs, o, es, ep, ho, hx, hdt, hsz, _⟩ := D.raw I ea
  obtain ⟨_, hs', o', es', ep', ho', hx', hdt', hsz', _⟩ := D.raw I eb
  have e0 : es' = #[] := Array.eq_empty_of_size_eq_zero hsz'
  subst e0
  refine dict_eq_nil hs hs' ⟨o, ho, hx, hdt⟩ ⟨o', ho', hx', hdt'⟩ hu ⟨.bl kvs.isEmpty, H, I, ?_, q⟩
  show Value.bool _ = Value.bool _
  congr 1
  cases kvs with
  | nil => simpa using hsz
  | cons x r => simp at hsz; simp [hsz]
def wIsNil (wa : WE) : WE := fun P ρ => wa (fun d ρ1 => ∃ kvs, d = D.enc kvs ∧ P (.bool kvs.isEmpty) ρ1) ρ
theorem ae_isNil (hu : X.A.units < cLine) (ha : AE X a wa) (hm : behindInMarks .Eq (.Dict [] [] p2) = false := by rfl) : AE X (.Compare a [.Eq] [.Dict [] [] p2] pos) (wIsNil D wa) :=
  ⟨fun F => PEimp (pe_cmpR (op_eqNil D hu) (ha.pe F) (D.new X p2) hm) fun σ H Q ⟨S, ρ, P, R, hw, q⟩ => ⟨S, ρ, _, R, hw, fun d ρ1 S1 H1 x h1 e1 R1 r1 p hp => by
    obtain ⟨kvs, rfl, hP⟩ := h1
    obtain ⟨a, vs, rfl, hd, kv⟩ := D.rp r1
    have hn := none_sub R1.sub hp
    have hd' : Rd (upd H1 p (D.ho [])) a (D.ho vs) := by
      rcases rd_sub R1.sub hd with h | ⟨o, h⟩
      · exact .inl (by rw [upd_ne (ne_of_none h hp)]; exact h)
      · exact .inr ⟨o, by rw [upd_ne (ne_of_none h hp)]; exact h⟩
    refine ⟨a, p, vs, rfl, rfl, hd', .inl upd_same, ?_⟩
    have e : vs.isEmpty = kvs.isEmpty := by
      have := kv_len kv
      cases vs <;> cases kvs <;> first | rfl | (simp at this)
    rw [e]
    obtain ⟨fp, R1⟩ := R1
    exact q _ _ S1 (upd H1 p (D.ho [])) _ hP e1 ⟨fp, R1.laid hp _⟩ (.bl _)⟩⟩
theorem at_isNil (hu : X.A.units < cLine) (ha : AE X a wa) (hm : behindInMarks .Eq (.Dict [] [] p2) = false := by rfl) : AT X (.Compare a [.Eq] [.Dict [] [] p2] pos) (wtB (wIsNil D wa)) :=
  ⟨fun F => PTimp (pt_cmpR (op_eqNil D hu) (ha.pe F) (D.new X p2) hm) fun σ H Q hq => (show tw F (wIsNil D wa) σ H (fun x H' => ∃ k, x = .bl k ∧ Q k H') → _ from fun ⟨S, ρ, P, R, hw, q⟩ => ⟨S, ρ, _, R, hw, fun d ρ1 S1 H1 x h1 e1 R1 r1 p hp => by
    obtain ⟨kvs, rfl, hP⟩ := h1
    obtain ⟨a, vs, rfl, hd, kv⟩ := D.rp r1
    have hn := none_sub R1.sub hp
    have hd' : Rd (upd H1 p (D.ho [])) a (D.ho vs) := by
      rcases rd_sub R1.sub hd with h | ⟨o, h⟩
      · exact .inl (by rw [upd_ne (ne_of_none h hp)]; exact h)
      · exact .inr ⟨o, by rw [upd_ne (ne_of_none h hp)]; exact h⟩
    refine ⟨a, p, vs, rfl, rfl, hd', .inl upd_same, ?_⟩
    have e : vs.isEmpty = kvs.isEmpty := by
      have := kv_len kv
      cases vs <;> cases kvs <;> first | rfl | (simp at this)
    rw [e]
    obtain ⟨fp, R1⟩ := R1
    exact q _ _ S1 (upd H1 p (D.ho [])) _ hP e1 ⟨fp, R1.laid hp _⟩ (.bl _)⟩) (wtB_go σ H Q hq)⟩
end
end AL

set_option Elab.async false
set_option linter.all false
set_option maxRecDepth 100000
set_option maxHeartbeats 4000000
namespace AL
open PySem PySem.Spec PyProof.Rows L2
/-! ### what is in the frame is owned again -/
theorem unframe {F G S H : Hp} {σ : L2.St} {ρ : AEnv} {a : Addr} {o : MO} {q : List Addr} (R : Rel G S σ H ρ) (g1 : ∀ b ∈ q, ∃ u, G b = some u) (g2 : ∀ b, b ∉ q → G b = F b) (g3 : ∀ b ∈ q, F b = none) (ow : OwnAt S H a o q) (nd : q.Nodup) : NewAt F S σ H ρ a o := by
  obtain ⟨fp, R⟩ := R
  have nin : ∀ i b, b ∈ fp i → b ∉ q := fun i b hb hq => by
    obtain ⟨u, hu⟩ := g1 b hq
    rw [(R.out i b hb).2.1] at hu
    cases hu
  have fin : ∀ b u, F b = some u → b ∉ q := fun b u h hq => by rw [g3 b hq] at h; cases h
  refine ⟨fp, q, { R with
    out := fun i b hb => ⟨(R.out i b hb).1, by rw [← g2 b (nin i b hb)]; exact (R.out i b hb).2.1, (R.out i b hb).2.2⟩
    frm := fun b u h => R.frm b u (by rw [g2 b (fin b u h)]; exact h)
    apt := ⟨fun b u h => R.apt.1 b u (by rw [g2 b (fin b u h)]; exact h), fun b xs h => R.apt.2 b xs (by rw [g2 b (fin b _ h)]; exact h)⟩ }, ow, nd, fun b hb => ?_⟩
  obtain ⟨u, hu⟩ := g1 b hb
  exact ⟨R.apt.1 b u hu, g3 b hb, by rw [R.frm b u hu]; exact (fun z => by cases z), fun i hi => nin i b hi hb⟩
/-- the frame with what a slot owns -/
noncomputable def frWith (F H : Hp) (q : List Addr) : Hp := fun b => open Classical in if b ∈ q then H b else F b
theorem frWith_in {F H : Hp} {q : List Addr} {b : Addr} (h : b ∈ q) : frWith F H q b = H b := by unfold frWith; rw [if_pos h]
theorem frWith_out {F H : Hp} {q : List Addr} {b : Addr} (h : b ∉ q) : frWith F H q b = F b := by unfold frWith; rw [if_neg h]
theorem RelW.hide {F S H : Hp} {σ : L2.St} {ρ : AEnv} {fp : Nat → List Addr} (R : RelW F S σ H ρ fp) {i : Nat} {o : MO} (h : ρ[i]? = some (.own o)) : Rel (frWith F H (fp i)) S σ H (ρ.set i .unk) := by
  obtain ⟨a, hv, ow⟩ := R.own h
  have e : σ.set i (σ[i]?.getD none) = σ := set_self_getD σ i
  have R1 := R.put (i := i) (x := σ[i]?.getD none) (av := .unk) (q := []) rfl List.nodup_nil (fun b hb => absurd hb (by simp)) fun j b _ _ => by simp
  rw [e] at R1
  have nin : ∀ j b, b ∈ (fun j => if j = i then [] else fp j) j → b ∉ fp i := fun j b hb hi => by
    by_cases z : j = i
    · simp [z] at hb
    · simp only [z, if_false] at hb
      exact z (R.dis j i b hb hi)
  refine ⟨_, { R1 with
    out := fun j b hb => ⟨(R1.out j b hb).1, by rw [frWith_out (nin j b hb)]; exact (R1.out j b hb).2.1, (R1.out j b hb).2.2⟩
    frm := fun b u hb => ?_
    apt := ⟨fun b u hb => ?_, fun b xs hb => ?_⟩ }⟩
  · by_cases z : b ∈ fp i
    · rw [frWith_in z] at hb; exact hb
    · rw [frWith_out z] at hb; exact R.frm b u hb
  · by_cases z : b ∈ fp i
    · exact (R.out i b z).1
    · rw [frWith_out z] at hb; exact R.apt.1 b u hb
  · by_cases z : b ∈ fp i
    · rw [frWith_in z] at hb; exact own_kind ow b z xs hb
    · rw [frWith_out z] at hb; exact R.apt.2 b xs hb
theorem unhide {F S H S' H' : Hp} {σ : L2.St} {ρ ρ' : AEnv} {fp : Nat → List Addr} (R : RelW F S σ H ρ fp) {i : Nat} {o : MO} {a : Addr} (hv : σ[i]? = some (some (.ref a))) (ow : OwnAt S H a o (fp i)) (R' : Rel (frWith F H (fp i)) S' σ H' ρ') (e : Le S S') :
    Rel F S' σ H' (ρ'.set i (.own o)) ∧ ∀ b ∈ fp i, H' b = H b := by
  have there := own_there ow
  have keep : ∀ b ∈ fp i, H' b = H b := fun b hb => by
    obtain ⟨u, hu⟩ := there b hb
    rw [R'.frm b u (by rw [frWith_in hb]; exact hu), hu]
  refine ⟨?_, keep⟩
  have N := unframe (F := F) R' (a := a) (o := o) (q := fp i) (fun b hb => by obtain ⟨u, hu⟩ := there b hb; exact ⟨u, by rw [frWith_in hb]; exact hu⟩) (fun b hb => frWith_out hb) (fun b hb => (R.out i b hb).2.1) (own_keep e ow keep) (R.nd i)
  have := N.put i
  rw [show σ.set i (some (V.ref a)) = σ by
    have h2 := set_self_getD σ i
    rw [hv] at h2
    exact h2] at this
  exact this
/-! ### x[j].append(v), x a list of lists -/
section
variable {X : Cx} {a b e : Expr} {p pos apos pn p2 spos : Pos} {x : Str} {w wa wb : WE} {i : Nat}
def wAppIx (i : Nat) (wj wv : WE) : WS := fun k ρ => (∃ xss, ρ[i]? = some (.own (.lsts xss))) ∧ wj (fun j ρ1 => ∃ (xss : List (List PyData)) (n : Int) (m : Nat) (xs : List PyData), ρ1[i]? = some (.own (.lsts xss)) ∧ j = .int n ∧ ixN xss.length n = some m ∧ xss[m]? = some xs ∧
  wv (fun d ρ2 => xs.length < sizeLine ∧ k.nx (ρ2.set i (.own (.lsts (xss.set m (xs ++ [d])))))) (ρ1.set i .unk)) ρ
theorem paired_at {α β : Type} {G : α → β → Prop} : ∀ {xs : List α} {ys : List β} {i : Nat} {y : β}, Paired G xs ys → ys[i]? = some y → ∃ x, xs[i]? = some x ∧ G x y
  | _, _, 0, _, .cons r _, h => by cases h; exact ⟨_, rfl, r⟩
  | _, _, i + 1, _, .cons _ t, h => by
    obtain ⟨x, hx, r⟩ := paired_at (i := i) t (by simpa using h)
    exact ⟨x, by simpa using hx, r⟩
theorem paired_set {α β : Type} {G G' : α → β → Prop} {y' : β} : ∀ {xs : List α} {ys : List β} {i : Nat} {x : α}, Paired G xs ys → xs[i]? = some x → xs.Nodup → G' x y' → (∀ z y, z ∈ xs → z ≠ x → G z y → G' z y) → Paired G' xs (ys.set i y')
  | _, _, 0, _, .cons r t, h, nd, g, k => by
    cases h
    obtain ⟨na, nd⟩ := List.nodup_cons.mp nd
    exact .cons g (paired_mem t fun z y hz hg => k z y (List.mem_cons_of_mem _ hz) (fun e => na (by rw [← e]; exact hz)) hg)
  | _, _, i + 1, x, .cons (a := z) r t, h, nd, g, k => by
    obtain ⟨na, nd⟩ := List.nodup_cons.mp nd
    have h' : _ := h
    rw [List.getElem?_cons_succ] at h'
    have hm : x ∈ _ := List.mem_of_getElem? h'
    exact .cons (k _ _ List.mem_cons_self (fun e => na (by rw [e]; exact hm)) r) (paired_set t h' nd g fun z y hz hne hg => k z y (List.mem_cons_of_mem _ hz) hne hg)
theorem RelW.mutIn {F S H : Hp} {σ : L2.St} {ρ : AEnv} {fp : Nat → List Addr} (R : RelW F S σ H ρ fp) {i : Nat} {l : Addr} {o : HO} {m : MO} {a : Addr} (hv : σ[i]? = some (some (.ref a))) (hl : l ∈ fp i) (hi : i < ρ.length) (ow : OwnAt S (upd H l o) a m (fp i)) : Rel F S σ (upd H l o) (ρ.set i (.own m)) := by
  have oa := R.out i l hl
  have oth : ∀ j b, b ∈ fp j → j ≠ i → b ≠ l := fun j b hb hj z => hj (R.dis j i b hb (by rw [z]; exact hl))
  exact ⟨fp, {
    len := by rw [List.length_set]; exact R.len
    slot := fun j av hj => by
      by_cases e : j = i
      · subst e
        rw [List.getElem?_set_self hi] at hj
        cases hj
        exact ⟨a, by rw [hv]; rfl, ow⟩
      · rw [List.getElem?_set_ne (Ne.symm e)] at hj
        exact slot_keep (Le.refl S) (R.slot j av hj) fun b hb => upd_ne (oth j b hb e)
    nd := R.nd
    dis := R.dis
    out := fun j b hb => by
      by_cases e : b = l
      · rw [e, upd_same]
        exact ⟨oa.1, oa.2.1, (fun z => by cases z)⟩
      · rw [upd_ne e]; exact R.out j b hb
    sub := fun b u hb => by rw [upd_ne (ne_of_none hb oa.1)]; exact R.sub _ _ hb
    frm := fun b u hb => by rw [upd_ne (ne_of_none hb oa.2.1)]; exact R.frm _ _ hb
    apt := R.apt }⟩
theorem as_appIx (hN : X.N[i]? = some x) (hv : Vis X.env.scope x) (ha : AE X a wa) (h : AE X e w) (hpl : PlainIx a) (hd : (x == ("__debug__" : Str)) = false := by decide) (hcd : (x == ("__classdict__" : Str)) = false := by decide)
    (hbase : attributeBase (.Subscript (.Name x pn) a p2) "append" X.env (eval (.Subscript (.Name x pn) a p2) X.env) = eval (.Subscript (.Name x pn) a p2) X.env := by rfl)
    (hfew : ((backTo pos (starEach (e :: []) X.env)).all (fun x => !x.1) && (backToKw pos (keywordEach [] X.env)).all (fun x => x.1.isSome) && decide ((e :: []).length + ([] : List Keyword).length + (if ([] : List Keyword).isEmpty then 0 else 1) < 30)) = true := by rfl)
    (hline : (apos.endLine == pos.line) = true := by rfl) (hs : starEach (e :: []) X.env = (false, eval e X.env) :: starEach [] X.env := by rfl) (hplain : (backTo pos (starEach [] X.env)).any (·.1) = false := by rfl)
    (hsw : swapsWith (.Call (.Attribute (.Subscript (.Name x pn) a p2) "append" apos) [e] [] pos) none spos.line X.env = pure false := by rfl) :
    AS X (.Expr (.Call (.Attribute (.Subscript (.Name x pn) a p2) "append" apos) [e] [] pos) spos) (wAppIx i wa w) := by
  refine ⟨fun F => PSimp (ps_expr (pe_bm PySem.F.plainAttrs_list PySem.F.slot_list_append PySem.F.type_list_append mt_append (pe_ix ix_list (pe_var hN hv hd hcd) (ha.pe F) hpl) (t := fun σ H Q => ∃ G, tCons (tw G w) tNil σ H Q) ⟨fun pos pins s σ H Q I ⟨G, q⟩ => (pa_cons (h.pe G) pa_nil hs).run pos pins s σ H Q I q⟩ hbase hfew hline hs hplain) hsw) fun D σ H ⟨S, ρ, k, R, ⟨⟨xss0, h0⟩, hw⟩, q, _⟩ => ?_⟩
  obtain ⟨fp0, R0⟩ := R
  obtain ⟨ad, hσ, ow0⟩ := R0.own h0
  refine ⟨_, hσ, S, ρ, _, ⟨fp0, R0⟩, hw, fun j ρ1 S1 H1 v hP e1 R1 r1 => ?_⟩
  obtain ⟨xss, n, m, xs, h1, rfl, hm, hxs, hP⟩ := hP
  cases r1
  obtain ⟨fp, R1⟩ := R1
  obtain ⟨ad', hσ', ow⟩ := R1.own h1
  rw [hσ] at hσ'
  cases hσ'
  obtain ⟨ls, hfp, hH, pr⟩ := id ow
  obtain ⟨l, hl, vs, hHl, rvs⟩ := paired_at pr hxs
  have hlen : xss.length = (ls.map V.ref).length := by rw [List.length_map]; exact (Paired.length pr).symm
  have hlm : l ∈ fp i := by rw [hfp]; exact List.mem_cons_of_mem _ (List.mem_of_getElem? hl)
  refine ⟨ad, ls.map V.ref, n, .ref l, rfl, rfl, .inl (.inl hH), ?_, ?_⟩
  · unfold atI
    rw [← hlen, hm]
    show (ls.map V.ref)[m]? = _
    rw [List.getElem?_map, hl]
    rfl
  refine ⟨.inl ⟨rfl, vs, .inl (.inl hHl)⟩, _, S1, _, _, R1.hide h1, hP, fun d ρ2 S2 H2 v hP2 e2 R2 r2 => ?_⟩
  obtain ⟨R3, kp⟩ := unhide R1 hσ ow R2 e2
  obtain ⟨hsz, hP2⟩ := hP2
  refine ⟨l, vs, v, rfl, rfl, by rw [kp l hlm]; exact hHl, by rw [rps_length rvs]; exact hsz, ?_⟩
  obtain ⟨fp3, R3⟩ := R3
  have hi : i < ρ2.length := by
    have h2 := (List.getElem?_eq_some_iff.mp hσ).1
    have h3 := R3.len
    rw [List.length_set] at h3
    omega
  obtain ⟨ad', hσ', ow3⟩ := R3.own (List.getElem?_set_self hi)
  rw [hσ] at hσ'
  cases hσ'
  obtain ⟨ls3, hfp3, hH3, pr3⟩ := id ow3
  have els : ls3 = ls := by
    have h2 := kp ad (by rw [hfp]; exact List.mem_cons_self)
    rw [hH3, hH] at h2
    have h3 := HO.lst.inj (Option.some.inj h2)
    exact List.map_inj_right (fun a b h => by cases h; rfl) |>.mp h3
  subst els
  have nd3 := R3.nd i
  rw [hfp3] at nd3
  obtain ⟨na3, nd3⟩ := List.nodup_cons.mp nd3
  have hl3 : l ∈ ls3 := List.mem_of_getElem? hl
  have R4 := R3.mutIn (i := i) (l := l) (o := .lst (vs ++ [v])) (m := .lsts (xss.set m (xs ++ [d]))) hσ (by rw [hfp3]; exact List.mem_cons_of_mem _ hl3) (by rw [List.length_set]; exact hi)
    ⟨ls3, hfp3, by rw [upd_ne (fun z => na3 (by rw [z]; exact hl3))]; exact hH3, paired_set pr3 hl nd3 ⟨_, upd_same, rps_append (rps_mono e2 rvs) (.cons r2 .nil)⟩ fun z y hz hne ⟨us, hu, ru⟩ => ⟨us, by rw [upd_ne hne]; exact hu, ru⟩⟩
  rw [List.set_set] at R4
  exact q _ _ _ _ hP2 (e1.trans e2) R4
end
end AL

set_option Elab.async false
set_option linter.all false
set_option maxRecDepth 100000
set_option maxHeartbeats 4000000
namespace AL
open PySem PySem.Spec PyProof.Rows L2
/-! ### [[] for ..] -/
/-- a frame with empty lists of ours -/
noncomputable def frNil (F : Hp) (ls : List Addr) : Hp := fun b => open Classical in if b ∈ ls then some (.lst []) else F b
theorem frNil_in {F : Hp} {ls : List Addr} {b : Addr} (h : b ∈ ls) : frNil F ls b = some (.lst []) := by unfold frNil; rw [if_pos h]
theorem frNil_out {F : Hp} {ls : List Addr} {b : Addr} (h : b ∉ ls) : frNil F ls b = F b := by unfold frNil; rw [if_neg h]
theorem upd_comm {H : Hp} {a b : Addr} {x y : HO} (h : a ≠ b) : upd (upd H a x) b y = upd (upd H b y) a x := by
  funext c
  by_cases e : c = a
  · subst e; rw [upd_same, upd_ne h, upd_same]
  · by_cases e2 : c = b
    · subst e2; rw [upd_same, upd_ne e, upd_same]
    · rw [upd_ne e2, upd_ne e, upd_ne e, upd_ne e2]
theorem frNil_app {F : Hp} {ls : List Addr} {p : Addr} : upd (frNil F ls) p (.lst []) = frNil F (ls ++ [p]) := by
  funext b
  by_cases e : b = p
  · subst e; rw [upd_same, frNil_in (by simp)]
  · rw [upd_ne e]
    by_cases z : b ∈ ls
    · rw [frNil_in z, frNil_in (List.mem_append_left _ z)]
    · rw [frNil_out z, frNil_out (by simp [z, e])]
def wLcsL (sg : WG) (wt : WT) (vs : List Nat) (P : Nat → AEnv → Prop) : List PyData → Nat → AEnv → Prop
  | [], n, ρ => P n ρ
  | d :: ds, n, ρ => sg d (fun ρ1 => wt (fun b ρ2 => if b = true then n < sizeLine ∧ wLcsL sg wt vs P ds (n + 1) (wipeA ρ2 vs) else wLcsL sg wt vs P ds n (wipeA ρ2 vs)) ρ1) ρ
def wLcs (wi : WI) (sg : WG) (wt : WT) (vs : List Nat) : WO := fun P ρ => wi (fun ds ρ1 => wLcsL sg wt vs (fun n ρ2 => P (.lsts (List.replicate n [])) (backA ρ1 ρ2 vs)) ds 0 (wipeA ρ1 vs)) ρ
section
variable {X : Cx} {F : Hp}
theorem lcs_go {K : PySem.W.Frag} {wi : WI} {g : TG} {sg : WG} {wt : WT} {vs : List Nat} (ct : CtOk K vs g sg) (nd : vs.Nodup) : ∀ σ H Q, two F (wLcs wi sg wt vs) σ H Q →
    tLc (twi F wi) g (fun σ H Q => ∃ G, twt G wt σ H Q) (tLst tNil) vs σ H Q := by
  intro σ H Q ⟨S, ρ, P, R, hw, q⟩
  refine ⟨S, ρ, _, R, hw, fun ds ρ1 S1 H1 J hP e1 R1 hJ D hD => ?_⟩
  have hFD : F D = none := none_sub R1.frm hD
  let Iv : List PyData → Hp → Prop := fun rest H' => ∃ S2 ρ2 ls, Le S1 S2 ∧ Rel (upd (frNil F ls) D (.lst (ls.map V.ref))) S2 (wipe σ vs) H' ρ2 ∧ D ∉ ls ∧ ls.Nodup ∧ (∀ l ∈ ls, F l = none) ∧ wLcsL sg wt vs (fun n ρ2 => P (.lsts (List.replicate n [])) (backA ρ1 ρ2 vs)) rest ls.length ρ2
  refine ⟨fun i m H' => Iv (ds.drop i) H' ∧ m = ds.length - i ∧ i ≤ ds.length, ⟨ds.length, ⟨S1, _, [], Le.refl S1, ?_, by simp, List.nodup_nil, (fun _ z => by cases z), hP⟩, rfl, Nat.zero_le _⟩, ?_⟩
  · have e : frNil F [] = F := by funext b; exact frNil_out (by simp)
    rw [e]
    exact rel_frame (R1.wipe vs) hD (fun _ z => by cases z)
  rintro i m H' ⟨⟨S2, ρ2, ls, e2, R2, hDl, ndl, hF, hw2⟩, rfl, hi⟩
  by_cases hlt : i < ds.length
  · obtain ⟨go, yl⟩ := (hJ i _ S2 _ H' ρ2 e2 R2).1 ds[i] (List.getElem?_eq_getElem hlt)
    refine .inr ⟨go, fun H3 => Iv (ds.drop (i + 1)) H3, fun H3 h3 => ⟨ds.length - (i + 1), by omega, h3, rfl, hlt⟩, fun x H3 hy => ?_⟩
    obtain ⟨S3, e3, R3, r3⟩ := yl x H3 hy
    rw [List.drop_eq_getElem_cons hlt] at hw2
    refine ct _ S3 _ H3 ρ2 x ds[i] _ _ R3 r3 hw2 fun ρ4 σ4 h4 R4 ew => ?_
    have ew' : wipe σ4 vs = wipe σ vs := ew.trans wipe_wipe
    refine ⟨ew', _, S3, ρ4, _, R4, h4, fun b ρ5 S5 H5 h5 e5 R5 => ?_⟩
    cases b with
    | true =>
      rw [if_pos rfl] at h5 ⊢
      refine ⟨Nat.zero_le _, fun p hp => ?_⟩
      have hHD : H5 D = some (.lst (ls.map V.ref)) := R5.frm D _ upd_same
      have npD : D ≠ p := ne_of_none hHD hp
      have R6 := rel_frame (o := .lst []) R5 hp (fun _ z => by cases z)
      rw [upd_comm npD, frNil_app] at R6
      have npl : p ∉ ls := fun z => by
        have := R5.frm p (.lst []) (by rw [upd_ne npD.symm]; exact frNil_in z)
        rw [hp] at this
        cases this
      refine ⟨ls.map V.ref, by rw [upd_ne npD]; exact hHD, by rw [List.length_map]; exact h5.1, S5, wipeA ρ5 vs, ls ++ [p], (e2.trans e3).trans e5, ?_, by simp [hDl, npD], by rw [List.nodup_append]; exact ⟨ndl, by simp, fun a ha b hb => by rw [List.mem_singleton.mp hb]; exact fun z => npl (by rw [← z]; exact ha)⟩, fun l hl => ?_, ?_⟩
      · have := (rel_reframe (o' := .lst ((ls ++ [p]).map V.ref)) R6 (fun _ z => by cases z)).wipe vs
        rw [ew'] at this
        rw [List.map_append] at this ⊢
        exact this
      · rcases List.mem_append.mp hl with h | h
        · exact hF l h
        · rw [List.mem_singleton.mp h]
          have := none_sub R5.frm hp
          rw [upd_ne npD.symm, frNil_out npl] at this
          exact this
      · rw [List.length_append]; exact h5.2
    | false =>
      have := R5.wipe vs
      rw [ew'] at this
      exact ⟨S5, _, ls, ((e2.trans e3).trans e5), this, hDl, ndl, hF, h5⟩
  · have e : i = ds.length := by omega
    subst e
    rw [List.drop_length] at hw2
    refine .inl ⟨(hJ _ _ S2 _ H' ρ2 e2 R2).2 (Nat.le_refl _), ?_⟩
    have R3 := Rel.back R1 e2 nd R2
    refine q _ _ _ _ D hw2 (e1.trans e2) (unframe (q := D :: ls) R3 (fun b hb => ?_) (fun b hb => ?_) (fun b hb => ?_) ⟨ls, rfl, R3.frm D _ upd_same, ?_⟩ (List.nodup_cons.mpr ⟨hDl, ndl⟩))
    · rcases List.mem_cons.mp hb with rfl | h
      · exact ⟨_, upd_same⟩
      · exact ⟨.lst [], by rw [upd_ne (fun z => hDl (by rw [← z]; exact h))]; exact frNil_in h⟩
    · rw [upd_ne (fun z => hb (by rw [z]; exact List.mem_cons_self)), frNil_out (fun z => hb (List.mem_cons_of_mem _ z))]
    · rcases List.mem_cons.mp hb with rfl | h
      · exact hFD
      · exact hF b h
    · have : ∀ l ∈ ls, H' l = some (.lst []) := fun l hl => R3.frm l _ (by rw [upd_ne (fun z => hDl (by rw [← z]; exact hl))]; exact frNil_in hl)
      clear hw2 R2 R3 ndl hDl hF
      induction ls with
      | nil => exact .nil
      | cons l ls ih => exact .cons ⟨[], this l List.mem_cons_self, .nil⟩ (ih fun l hl => this l (List.mem_cons_of_mem _ hl))
variable {tg iter : Expr} {ifs : List Expr} {scope : Scope} {own : List (Str × Nat)} {pos spos py p2 : Pos} {wi : WI} {g : TG} {sg : WG} {wt : WT}
theorem ao_lcs (hc : X.calm = true) (hN : X.N.Nodup) (ok : BlkOk X.N X.env.scope scope own) (hi : AI X tg iter wi) (ct : CtOk X.K (own.map (·.2)) g sg) (nd : (own.map (·.2)).Nodup)
    (hg : ∀ (s : Shared) (H : Hp) (C : Addr) (cl : List (Str × Addr)) (fp : List Addr), PG (X.blk s H scope (compEnvC scope cl C X.env) fp) tg g) (ht : ∀ (s : Shared) (H : Hp) (C : Addr) (cl : List (Str × Addr)) (fp : List Addr), ATs (X.blk s H scope (compEnvC scope cl C X.env) fp) ifs wt)
    (hs : ∀ x, foldedSetIterable iter X.env x = pure x := by intro _; rfl) :
    AO X (.ListComp (.List [] p2) [⟨tg, iter, ifs, 0⟩] scope pos) (wLcs wi sg wt (own.map (·.2))) :=
  ⟨fun F => PEimp (pe_lc hc hN (hi.pi F) ok hg (fun s H C cl fp => pts_ex (ht s H C cl fp)) (fun s H C cl fp => pe_lst pa_nil) hs) (lcs_go ct nd)⟩
theorem as_setLcs {i : Nat} {y : Str} (hc : X.calm = true) (hN : X.N.Nodup) (hy : X.N[i]? = some y) (hyl : X.env.scope.names.lookup y = some .local) (hsw : swapsWith (.ListComp (.List [] p2) [⟨tg, iter, ifs, 0⟩] scope pos) (some (.Name y py)) spos.line X.env = pure true)
    (ok : BlkOk X.N X.env.scope scope own) (hi : AI X tg iter wi) (ct : CtOk X.K (own.map (·.2)) g sg) (nd : (own.map (·.2)).Nodup)
    (hg : ∀ (s : Shared) (H : Hp) (C : Addr) (cl : List (Str × Addr)) (fp : List Addr), PG (X.blk s H scope (compEnvC scope cl C X.env) fp) tg g) (ht : ∀ (s : Shared) (H : Hp) (C : Addr) (cl : List (Str × Addr)) (fp : List Addr), ATs (X.blk s H scope (compEnvC scope cl C X.env) fp) ifs wt)
    (hs : ∀ x, foldedSetIterable iter X.env x = pure x := by intro _; rfl) :
    AS X (.Assign [.Name y py] (.ListComp (.List [] p2) [⟨tg, iter, ifs, 0⟩] scope pos) spos) (wSetO i (wLcs wi sg wt (own.map (·.2)))) :=
  ⟨fun F => PSimp (ps_setLc hc hN hy hyl hsw (hi.pi F) ok hg (fun s H C cl fp => pts_ex (ht s H C cl fp)) (fun s H C cl fp => pe_lst pa_nil) hs) fun D σ H ⟨S, ρ, k, R, hw, q, _⟩ =>
    lcs_go ct nd σ H _ ⟨S, ρ, _, R, hw, fun o ρ' S' H' a hP e1 N1 => q _ _ _ _ hP e1 (N1.put i)⟩⟩
end
end AL

set_option Elab.async false
set_option linter.all false
set_option maxRecDepth 100000
set_option maxHeartbeats 4000000
namespace AL
open PySem PySem.Spec PyProof.Rows L2
section
variable {X : Cx} {a b e : Expr} {p p2 pos apos pn spos : Pos} {x : Str} {w wa wb : WE} {i : Nat}
/-! ### list(range(..)) -/
theorem rgV_rps {S : Hp} {a b : Int} : RpAll S (rgV a b) (rangeL a (b - a).toNat) := by
  have : ∀ (l : List Nat), RpAll S (l.map fun k => V.int (a + (k : Nat))) (l.map fun k => PyData.int (a + (k : Nat))) := by
    intro l
    induction l with
    | nil => exact .nil
    | cons x l ih => exact .cons (.int _) ih
  exact this _
def wRg1 (wa : WE) : WO := fun P ρ => wa (fun d ρ1 => ∃ n, d = .int n ∧ RgOk 0 n ∧ P (.lst (rangeL 0 n.toNat)) ρ1) ρ
theorem ao_listRg1 (hc : X.calm = true) (hgl : Gl X "list") (hml : X.mg "list" = none) (hg : Gl X "range") (hm : X.mg "range" = none) (ha : AE X a wa) (na : starEach [a] X.env = (false, eval a X.env) :: starEach [] X.env := by rfl)
    (nl : starEach [.Call (.Name "range" p2) [a] [] pn] X.env = (false, eval (.Call (.Name "range" p2) [a] [] pn) X.env) :: starEach [] X.env := by rfl) : AO X (.Call (.Name "list" p) [.Call (.Name "range" p2) [a] [] pn] [] pos) (wRg1 wa) :=
  ⟨fun F => PEimp (pe_listRg hc hgl hml (prg_1 hg hm (ha.pe F) na) nl) fun σ H Q ⟨S, ρ, P, R, hw, q⟩ => ⟨S, ρ, _, R, hw, fun d ρ1 S1 H1 x h1 e1 R1 r1 => by
    obtain ⟨n, rfl, ok, hP⟩ := h1
    cases r1
    refine ⟨n, rfl, ok, fun p hp => q _ _ _ _ _ hP e1 (new_lst R1 hp ?_)⟩
    have := rgV_rps (S := S1) (a := 0) (b := n)
    rw [Int.sub_zero] at this
    exact this⟩⟩
def wRg2 (wa wb : WE) : WO := fun P ρ => wa (fun d ρ1 => wb (fun e ρ2 => ∃ m n, d = .int m ∧ e = .int n ∧ RgOk m n ∧ P (.lst (rangeL m (n - m).toNat)) ρ2) ρ1) ρ
theorem ao_listRg2 (hc : X.calm = true) (hgl : Gl X "list") (hml : X.mg "list" = none) (hg : Gl X "range") (hm : X.mg "range" = none) (ha : AE X a wa) (hb : AE X b wb) (na : starEach [a, b] X.env = (false, eval a X.env) :: starEach [b] X.env := by rfl)
    (nb : starEach [b] X.env = (false, eval b X.env) :: starEach [] X.env := by rfl) (hp : (backTo pn (starEach [b] X.env)).any (·.1) = false := by rfl)
    (nl : starEach [.Call (.Name "range" p2) [a, b] [] pn] X.env = (false, eval (.Call (.Name "range" p2) [a, b] [] pn) X.env) :: starEach [] X.env := by rfl) : AO X (.Call (.Name "list" p) [.Call (.Name "range" p2) [a, b] [] pn] [] pos) (wRg2 wa wb) :=
  ⟨fun F => PEimp (pe_listRg hc hgl hml (prg_2 hg hm (ha.pe F) (hb.pe F) na nb hp) nl) fun σ H Q ⟨S, ρ, P, R, hw, q⟩ => ⟨S, ρ, _, R, hw, fun d ρ1 S1 H1 x h1 e1 R1 r1 => ⟨S1, ρ1, _, R1, h1, fun e ρ2 S2 H2 y h2 e2 R2 r2 => by
    obtain ⟨m, n, rfl, rfl, ok, hP⟩ := h2
    cases r1
    cases r2
    exact ⟨m, n, rfl, rfl, ok, fun p hp => q _ _ _ _ _ hP (e1.trans e2) (new_lst R2 hp rgV_rps)⟩⟩⟩⟩
end
end AL

set_option Elab.async false
set_option linter.all false
set_option maxRecDepth 100000
set_option maxHeartbeats 4000000
namespace AL
open PySem PySem.Spec PyProof.Rows L2
/-! ### the law's source: what stands in it, exactly -/
abbrev sKvs (l : Addr) (lf mx tn : Int) : List (Key × V) := [(.inr (Str.ofString "cells"), .ref l), (.inr (Str.ofString "left"), .int lf), (.inr (Str.ofString "mixed"), .int mx), (.inr (Str.ofString "turn"), .int tn)]
def SrcIs (H : Hp) (a l : Addr) (cs : List Int) (lf mx tn : Int) : Prop := H a = some (.dK (sKvs l lf mx tn)) ∧ H l = some (.lst (cs.map V.int))
def srcOk (cs : List Int) (lf mx tn : Int) : Prop := cs.length ≤ 64 ∧ (∀ c ∈ cs, 0 ≤ c) ∧ 0 ≤ lf ∧ 0 ≤ mx ∧ 0 ≤ tn
theorem src_iff {H : Hp} {a l : Addr} : SrcAt H a l ↔ ∃ cs lf mx tn, SrcIs H a l cs lf mx tn ∧ srcOk cs lf mx tn :=
  ⟨fun ⟨cs, lf, mx, tn, h1, h2, h⟩ => ⟨cs, lf, mx, tn, ⟨h1, h2⟩, h⟩, fun ⟨cs, lf, mx, tn, ⟨h1, h2⟩, h⟩ => ⟨cs, lf, mx, tn, h1, h2, h⟩⟩
section
variable {l : Addr} {lf mx tn x : Int}
theorem v_cells : valV (sKvs l lf mx tn) (.inr (Str.ofString "cells")) = some (.ref l) := by rfl
theorem v_left : valV (sKvs l lf mx tn) (.inr (Str.ofString "left")) = some (.int lf) := by rfl
theorem v_mixed : valV (sKvs l lf mx tn) (.inr (Str.ofString "mixed")) = some (.int mx) := by rfl
theorem v_turn : valV (sKvs l lf mx tn) (.inr (Str.ofString "turn")) = some (.int tn) := by rfl
theorem p_left : putK (sKvs l lf mx tn) (.inr (Str.ofString "left")) (.int x) = sKvs l x mx tn := by rfl
theorem p_turn : putK (sKvs l lf mx tn) (.inr (Str.ofString "turn")) (.int x) = sKvs l lf mx x := by rfl

end
/-- source[k] -/
abbrev tSrc (k : Str) : TE := tDGet (tVar 0) (tC (V.str k))
theorem src_get {H : Hp} {a l : Addr} {cs : List Int} {lf mx tn : Int} {σ : L2.St} {k : Str} {v : V} {Q : VK} (hs : SrcIs H a l cs lf mx tn) (hσ : σ[0]? = some (some (.ref a))) (hv : valV (sKvs l lf mx tn) (.inr k) = some v) (q : Q v H) : tSrc k σ H Q :=
  ⟨_, hσ, a, v, rfl, by rw [← hv]; exact DGet.k (k := .inr k) hs.1, q⟩
theorem src_put {H : Hp} {a l : Addr} {cs : List Int} {lf mx tn x lf' tn' : Int} {k : Str} (hs : SrcIs H a l cs lf mx tn) (ne : a ≠ l) (hp : putK (sKvs l lf mx tn) (.inr k) (.int x) = sKvs l lf' mx tn') :
    DPut H a (.str k) (.int x) (upd H a (.dK (sKvs l lf' mx tn'))) ∧ SrcIs (upd H a (.dK (sKvs l lf' mx tn'))) a l cs lf' mx tn' :=
  ⟨by rw [← hp]; exact DPut.k (k := .inr k) hs.1 (by show 4 < sizeLine; decide), upd_same, by rw [upd_ne (Ne.symm ne)]; exact hs.2⟩
abbrev rLtI : R2 := rI0 fun i j => V.bl (decide (i < j))
abbrev rGtI : R2 := rI0 fun i j => V.bl (decide (j < i))
abbrev rAddI : R2 := rI0 fun i j => V.int (i + j)
abbrev rMulI : R2 := rI CMul fun i j => V.int (i * j)
abbrev rDivI : R2 := rI CDiv fun i j => V.int (i / j)
abbrev rModI : R2 := rI (fun x j => 0 < j) fun i j => V.int (i % j)
abbrev rIntI : List V → Hp → VK → Prop := fun xs H Q => (∃ i, xs = [V.int i] ∧ Q (V.int i) H) ∨ ∃ k, xs = [V.bl k] ∧ Q (V.int (if k = true then 1 else 0)) H
abbrev rLenI (K : PySem.W.Frag) : List V → Hp → VK → Prop := fun xs H Q => ∃ p ys, xs = [V.ref p] ∧ (SqL K H p ys ∨ SqT K H p ys) ∧ Q (V.int ys.length) H
def tPickW (K : PySem.W.Frag) : TS := tWhile (tAnd (tTest (tOp rLtI (tSrc "left") (tC (V.int 2)))) (tTest (tOp rGtI (tCB (rLenI K) (tCons (tVar 2) tNil)) (tC (V.int 0))))) (sDPut (tVar 0) (tC (V.str "left")) (tBM0 K "list" rPop (tVar 2)))
def tPickE : TS :=
  tSeq (sDPut (tVar 0) (tC (V.str "turn")) (tOp rAddI (tSrc "turn") (tC (V.int 1))))
  (tSeq (tAsg (tSrc "turn") (gName 4))
  (tSeq (tAsg (tOp rModI (tCB rIntI (tCons (tOp rAddI (tSrc "mixed") (tOp rMulI (tVar 4) (tC (V.int 104729)))) tNil)) (tC (V.int 998244353))) (gName 5))
  (tSeq (tAsg (tOp rModI (tCB rIntI (tCons (tOp rAddI (tOp rMulI (tVar 5) (tVar 5)) (tOp rMulI (tVar 4) (tC (V.int 17)))) tNil)) (tC (V.int 2147483647))) (gName 5))
  (tRet (tOp rModI (tCB rIntI (tCons (tOp rDivI (tVar 5) (tC (V.int 16))) tNil)) (tVar 1))))))
def tPick (K : PySem.W.Frag) : TS :=
  tSeq (tIfS (tTest (tOp rLtI (tVar 1) (tC (V.int 2)))) (tRet (tC (V.int 0))) tNext)
  (tSeq (tAsg (tSrc "cells") (gName 2))
  (tSeq (tPickW K)
  (tSeq (tAsg (tSrc "left") (gName 3))
  (tSeq (tIfS (tTest (tOp rGtI (tVar 3) (tC (V.int 1)))) (tSeq (sDPut (tVar 0) (tC (V.str "left")) (tOp rDivI (tVar 3) (tVar 1))) (tRet (tOp rModI (tCB rIntI (tCons (tVar 3) tNil)) (tVar 1)))) tNext)
  tPickE))))
def Off (a l : Addr) (H H' : Hp) : Prop := ∀ b, b ≠ a → b ≠ l → H' b = H b
theorem Off.refl {a l : Addr} {H : Hp} : Off a l H H := fun _ _ _ => rfl
theorem Off.a {a l : Addr} {H H' : Hp} {o : HO} (h : Off a l H H') : Off a l H (upd H' a o) := fun b n1 n2 => by rw [upd_ne n1]; exact h b n1 n2
theorem Off.l {a l : Addr} {H H' : Hp} {o : HO} (h : Off a l H H') : Off a l H (upd H' l o) := fun b n1 n2 => by rw [upd_ne n2]; exact h b n1 n2
theorem pickE_go {D : Ends} {H0 H : Hp} {a l : Addr} {cs : List Int} {lf mx tn m : Int} {c o : Option V} (hs : SrcIs H a l cs lf mx tn) (ok : srcOk cs lf mx tn) (ne : a ≠ l) (off : Off a l H0 H) (hm : 2 ≤ m)
    (q : ∀ (r : Int) H', 0 ≤ r → r < m → SrcAt H' a l → Off a l H0 H' → D.rt (.int r) H') : tPickE D [some (.ref a), some (.int m), c, o, none, none] H := by
  obtain ⟨h1, h2⟩ := src_put (k := "turn") (lf' := lf) (tn' := tn + 1) hs ne p_turn
  refine src_get hs rfl v_turn ⟨tn, 1, rfl, rfl, _, rfl, a, _, rfl, h1, src_get h2 rfl v_turn ?_⟩
  refine src_get h2 rfl v_mixed ⟨_, rfl, tn + 1, 104729, rfl, rfl, .inr (by decide), mx, (tn + 1) * 104729, rfl, rfl, .inl ⟨mx + (tn + 1) * 104729, rfl, ?_⟩⟩
  refine ⟨_, 998244353, rfl, rfl, (show (0 : Int) < 998244353 by decide), ?_⟩
  obtain ⟨x, hx⟩ : ∃ x, x = (mx + (tn + 1) * 104729) % 998244353 := ⟨_, rfl⟩
  have x1 : 0 ≤ x := by omega
  have x2 : x < 998244353 := by omega
  refine ⟨.int x, by rw [hx]; rfl, .int x, by rw [hx]; rfl, x, x, rfl, rfl, .inl ⟨by omega, by omega⟩, .int (tn + 1), rfl, tn + 1, 17, rfl, rfl, .inr (by decide), x * x, (tn + 1) * 17, rfl, rfl, .inl ⟨_, rfl, _, 2147483647, rfl, rfl, (show (0 : Int) < 2147483647 by decide), ?_⟩⟩
  obtain ⟨y, hy⟩ : ∃ y, y = (x * x + (tn + 1) * 17) % 2147483647 := ⟨_, rfl⟩
  refine ⟨.int y, by rw [hy]; rfl, y, 16, rfl, rfl, ⟨by decide, by decide⟩, .inl ⟨_, rfl, .int m, rfl, _, m, rfl, rfl, by omega, ?_⟩⟩
  refine q _ _ (Int.emod_nonneg _ (by omega)) (Int.emod_lt_of_pos _ (by omega)) (src_iff.mpr ⟨cs, lf, mx, tn + 1, h2, ok.1, ok.2.1, ok.2.2.1, ok.2.2.2.1, ?_⟩) off.a
  have := ok.2.2.2.2
  omega
theorem pick_go {K : PySem.W.Frag} {D : Ends} {H : Hp} {a l : Addr} {m : Int} (hs : SrcAt H a l) (ne : a ≠ l) (hm : m < 2 ^ 30)
    (q : ∀ (r : Int) H', 0 ≤ r → (r < m ∨ (m < 2 ∧ r = 0)) → SrcAt H' a l → Off a l H H' → D.rt (.int r) H') : tPick K D [some (.ref a), some (.int m), none, none, none, none] H := by
  refine ⟨_, rfl, m, 2, rfl, rfl, _, rfl, ite2 (fun e => ?_) (fun e => ?_)⟩
  · exact q 0 H (Int.le_refl _) (.inr ⟨of_decide_eq_true e, rfl⟩) hs Off.refl
  · have h2 : ¬ m < 2 := fun z => e (decide_eq_true z)
    obtain ⟨cs, lf, mx, tn, hs, ok⟩ := src_iff.mp hs
    refine src_get hs rfl v_cells ?_
    -- the loop
    refine ⟨fun n σ H' => ∃ cs lf mx tn, σ = [some (.ref a), some (.int m), some (.ref l), none, none, none] ∧ n = cs.length ∧ SrcIs H' a l cs lf mx tn ∧ srcOk cs lf mx tn ∧ Off a l H H', ⟨_, cs, lf, mx, tn, rfl, rfl, hs, ok, Off.refl⟩, ?_⟩
    rintro n σ H' ⟨cs, lf, mx, tn, rfl, rfl, hs, ok, off⟩
    -- what comes behind it
    have out : tSeq (tAsg (tSrc "left") (gName 3)) (tSeq (tIfS (tTest (tOp rGtI (tVar 3) (tC (V.int 1)))) (tSeq (sDPut (tVar 0) (tC (V.str "left")) (tOp rDivI (tVar 3) (tVar 1))) (tRet (tOp rModI (tCB rIntI (tCons (tVar 3) tNil)) (tVar 1)))) tNext) tPickE) D [some (.ref a), some (.int m), some (.ref l), none, none, none] H' := by
      refine src_get hs rfl v_left ⟨.int lf, rfl, lf, 1, rfl, rfl, _, rfl, ite2 (fun e => ?_) (fun e => ?_)⟩
      · have h1 := of_decide_eq_true e
        obtain ⟨g1, g2⟩ := src_put (k := "left") (lf' := lf / m) (tn' := tn) hs ne p_left
        refine ⟨.int lf, rfl, .int m, rfl, lf, m, rfl, rfl, ⟨by omega, by omega⟩, _, rfl, a, _, rfl, g1, .int lf, rfl, .inl ⟨lf, rfl, .int m, rfl, lf, m, rfl, rfl, by omega, ?_⟩⟩
        exact q _ _ (Int.emod_nonneg _ (by omega)) (.inl (Int.emod_lt_of_pos _ (by omega))) (src_iff.mpr ⟨cs, _, mx, tn, g2, ok.1, ok.2.1, Int.ediv_nonneg ok.2.2.1 (by omega), ok.2.2.2⟩) off.a
      · exact pickE_go hs ok ne off (by omega) fun r H2 h1 h2 h3 h4 => q r H2 h1 (.inl h2) h3 h4
    refine src_get hs rfl v_left ⟨lf, 2, rfl, rfl, _, rfl, ite2 (fun e => ?_) (fun e => ?_)⟩
    · refine ⟨.ref l, rfl, l, cs.map V.int, rfl, .inl (.inl (.inl hs.2)), ((cs.map V.int).length : Nat), 0, rfl, rfl, _, rfl, ite2 (fun e => ?_) (fun e => ?_)⟩
      · have hc : 0 < cs.length := by
          have := of_decide_eq_true e
          rw [List.length_map] at this
          omega
        refine ⟨fun σ' H2 => ∃ cs' lf' mx tn, σ' = [some (.ref a), some (.int m), some (.ref l), none, none, none] ∧ cs'.length < cs.length ∧ SrcIs H2 a l cs' lf' mx tn ∧ srcOk cs' lf' mx tn ∧ Off a l H H2, fun σ' H2 ⟨cs', lf', mx', tn', e1, e2, e3, e4, e5⟩ => ⟨_, e2, cs', lf', mx', tn', e1, rfl, e3, e4, e5⟩, ?_⟩
        obtain ⟨c, hcl⟩ : ∃ c, cs[cs.length - 1]? = some c := ⟨_, List.getElem?_eq_getElem (by omega)⟩
        refine ⟨.ref l, rfl, .inl ⟨rfl, _, .inl (.inl hs.2)⟩, l, cs.map V.int, .int c, rfl, rfl, hs.2, by rw [List.length_map, List.getElem?_map, hcl]; rfl, _, rfl, ?_⟩
        have hs' : SrcIs (upd H' l (.lst (cs.map V.int).dropLast)) a l cs.dropLast lf mx tn := ⟨by rw [upd_ne ne]; exact hs.1, by rw [upd_same, List.map_dropLast]⟩
        obtain ⟨g1, g2⟩ := src_put (k := "left") (x := c) (lf' := c) (tn' := tn) hs' ne p_left
        refine ⟨a, _, rfl, g1, cs.dropLast, c, mx, tn, rfl, by rw [List.length_dropLast]; omega, g2, ⟨by rw [List.length_dropLast]; have := ok.1; omega, fun z hz => ok.2.1 z (List.dropLast_subset _ hz), ok.2.1 c (List.mem_of_getElem? hcl), ok.2.2.2⟩, off.l.a⟩
      · exact out
    · exact ite2 (fun e => by cases e) (fun _ => out)
end AL

set_option Elab.async false
set_option linter.all false
set_option maxRecDepth 100000
set_option maxHeartbeats 4000000
namespace AL
open PySem PySem.Spec PyProof.Rows L2
abbrev rAbsI : List V → Hp → VK → Prop := fun xs H Q => ∃ i, xs = [V.int i] ∧ Q (V.int (if i < 0 then -i else i)) H
def tOpenR (K : PySem.W.Frag) : TS := tRet (tDisp [(tC (V.str "cells"), tRevL K (tVar 3)), (tC (V.str "left"), tC (V.int 1)), (tC (V.str "mixed"), tVar 1), (tC (V.str "turn"), tC (V.int 0))])
def tOpenL (K : PySem.W.Frag) : TS := tAsg (tLc (iList K (tVar 0)) (gName 2) tYes (tCB rAbsI (tCons (tVar 2) tNil)) [2]) (gName 3)
def tOpen (K : PySem.W.Frag) : TS :=
  tSeq (tAsg (tC (V.int 11)) (gName 1))
  (tSeq (tFor (iList K (tVar 0)) (gName 2) (tAsg (tOp rModI (tCB rIntI (tCons (tOp rAddI (tOp rAddI (tOp rMulI (tVar 1) (tC (V.int 69069))) (tOp rMulI (tVar 2) (tC (V.int 31)))) (tC (V.int 5))) tNil)) (tC (V.int 2147483629))) (gName 1)))
  (tSeq (tOpenL K) (tOpenR K)))
theorem same_new {H : Hp} {p : Addr} {o : HO} (h : H p = none) : Same H (upd H p o) := fun b u e => by rw [upd_ne (ne_of_none e h)]; exact e
theorem same_up {H H' : Hp} {p : Addr} {o : HO} (e : Same H H') (h : H p = none) : Same H (upd H' p o) := fun b u q => by rw [upd_ne (ne_of_none q h)]; exact e _ _ q
theorem ints_at {ns : List Int} {i : Nat} {n : Int} (h : ns[i]? = some n) : (ns.map V.int)[i]? = some (.int n) := by rw [List.getElem?_map, h]; rfl
theorem openR_go {K : PySem.W.Frag} {D : Ends} {H H0 : Hp} {c : Addr} {cs : List Int} {mx : Int} {x0 x2 : Option V} (e0 : Same H0 H) (hc : H c = some (.lst (cs.map V.int))) (hl : cs.length ≤ 64) (hn : ∀ z ∈ cs, 0 ≤ z) (hm : 0 ≤ mx)
    (q : ∀ (p l : Addr) H', Same H0 H' → H0 p = none → H0 l = none → p ≠ l → SrcAt H' p l → D.rt (.ref p) H') : tOpenR K D [x0, some (.int mx), x2, some (.ref c)] H := by
  intro p hp
  have npc : c ≠ p := ne_of_none hc hp
  refine ⟨.ref c, rfl, c, cs.map V.int, rfl, .inl (.inl (by rw [upd_ne npc]; exact hc)), fun l hl' => ?_⟩
  have npl : p ≠ l := fun z => by rw [← z, upd_same] at hl'; cases hl'
  have hlH : H l = none := by rw [upd_ne npl.symm] at hl'; exact hl'
  refine ⟨_, rfl, by rw [upd_ne npl, upd_same], sKvs l 1 mx 0, rfl, (show 4 ≤ 15 by decide), ?_⟩
  refine q p l _ (same_up (same_up (same_up e0 (e0.free hp)) (e0.free hlH)) (e0.free hp)) (e0.free hp) (e0.free hlH) npl (src_iff.mpr ⟨cs.reverse, 1, mx, 0, ⟨by rw [upd_same]; rfl, by rw [upd_ne npl.symm, upd_same, List.map_reverse]⟩, by rw [List.length_reverse]; exact hl, fun z hz => hn z (List.mem_reverse.mp hz), by decide, hm, by decide⟩)
theorem open_go {K : PySem.W.Frag} {D : Ends} {H : Hp} {a : Addr} {ns : List Int} (hs : SqL K H a (ns.map V.int)) (hl : ns.length ≤ 63)
    (q : ∀ (p l : Addr) H', Same H H' → H p = none → H l = none → p ≠ l → SrcAt H' p l → D.rt (.ref p) H') : tOpen K D [some (.ref a), none, none, none] H := by
  refine ⟨.ref a, rfl, a, rfl, ⟨_, hs⟩, fun i m σ H3 => ∃ (s : Int) (y : Option V), σ = [some (.ref a), some (.int s), y, none] ∧ 0 ≤ s ∧ i + m = ns.length ∧ H3 = H, ⟨ns.length, 11, none, rfl, by decide, by omega, rfl⟩, ?_⟩
  rintro i m σ H3 ⟨s, y, rfl, hs0, hi, rfl⟩
  by_cases hlt : i < ns.length
  · have g := ints_at (List.getElem?_eq_getElem hlt)
    refine .inr ⟨⟨_, _, hs, g⟩, fun σ' H' => ∃ (s : Int) (y : Option V), σ' = [some (.ref a), some (.int s), y, none] ∧ 0 ≤ s ∧ H' = H3, fun σ' H' ⟨s', y', e1, e2, e3⟩ => ⟨m - 1, by omega, s', y', e1, e2, by omega, e3⟩, fun v H' hy => ?_⟩
    obtain ⟨rfl, fv⟩ := hy
    obtain rfl : v = .int ns[i] := Option.some.inj ((fv _ hs).symm.trans g)
    refine ⟨.int s, rfl, s, 69069, rfl, rfl, .inr (by decide), .int ns[i], rfl, ns[i], 31, rfl, rfl, .inr (by decide), s * 69069, ns[i] * 31, rfl, rfl, s * 69069 + ns[i] * 31, 5, rfl, rfl, .inl ⟨_, rfl, _, 2147483629, rfl, rfl, (show (0 : Int) < 2147483629 by decide), _, _, rfl, ?_, rfl⟩⟩
    exact Int.emod_nonneg _ (by decide)
  · refine .inl ⟨⟨_, hs, by rw [List.length_map]; omega⟩, ?_⟩
    refine ⟨.ref a, rfl, a, rfl, ⟨_, hs⟩, fun D hD => ⟨fun i m H' => ∃ cs : List Int, H' = upd H3 D (.lst (cs.map V.int)) ∧ cs.length = i ∧ (∀ c ∈ cs, 0 ≤ c) ∧ i + m = ns.length, ⟨ns.length, [], rfl, rfl, (fun c hc => by cases hc), by omega⟩, ?_⟩⟩
    rintro j k H' ⟨cs, rfl, hcl, hcn, hjk⟩
    have hs' : SqL K (upd H3 D (.lst (cs.map V.int))) a (ns.map V.int) := (same_new hD).seq hs
    by_cases hj : j < ns.length
    · have g := ints_at (List.getElem?_eq_getElem hj)
      refine .inr ⟨⟨_, _, hs', g⟩, fun H' => ∃ cs : List Int, H' = upd H3 D (.lst (cs.map V.int)) ∧ cs.length = j + 1 ∧ ∀ c ∈ cs, 0 ≤ c, fun H' ⟨cs', e1, e2, e3⟩ => ⟨k - 1, by omega, cs', e1, e2, e3, by omega⟩, fun v H' hy => ?_⟩
      obtain ⟨rfl, fv⟩ := hy
      obtain rfl : v = .int ns[j] := Option.some.inj ((fv _ hs').symm.trans g)
      refine ⟨rfl, ?_⟩
      unfold tYes; dsimp only
      rw [if_pos rfl]
      refine ⟨.int ns[j], rfl, ns[j], rfl, cs.map V.int, upd_same, by rw [List.length_map]; exact Nat.lt_of_lt_of_le (show cs.length < 64 by omega) (by decide), cs ++ [if ns[j] < 0 then -ns[j] else ns[j]], ?_, by rw [List.length_append, hcl]; rfl, fun c hc => ?_⟩
      · rw [List.map_append]
        funext b
        by_cases e : b = D
        · subst e; rw [upd_same, upd_same]; rfl
        · rw [upd_ne e, upd_ne e, upd_ne e]
      · rcases List.mem_append.mp hc with h | h
        · exact hcn c h
        · rw [List.mem_singleton.mp h]
          split <;> omega
    · refine .inl ⟨⟨_, hs', by rw [List.length_map]; omega⟩, ?_⟩
      exact openR_go (same_new hD) upd_same (by omega) hcn hs0 q
end AL

set_option Elab.async false
set_option linter.all false
set_option maxRecDepth 100000
set_option maxHeartbeats 4000000
namespace AL
open PySem PySem.Spec PyProof.Rows L2
abbrev npPick : List Str := ["source", "most", "cells", "others", "lap", "stirred"]
abbrev npOpen : List Str := ["script", "stirred", "cell", "cells"]
/-- a number below m is drawn -/
def spPick : Spc := fun ds P => ∃ m : Int, ds = [.int m] ∧ m < 2 ^ 30 ∧ ∀ r : Int, 0 ≤ r → (r < m ∨ (m < 2 ∧ r = 0)) → P (.int r)
def spOpen (K : PySem.W.Frag) : Sp := fun vs H Q _ => ∃ (a : Addr) (ns : List Int), vs = [.ref a] ∧ SqL K H a (ns.map V.int) ∧ ns.length ≤ 63 ∧ ∀ (p l : Addr) H', Same H H' → H p = none → H l = none → p ≠ l → SrcAt H' p l → Q (.ref p) H'
section
variable {P : Program} {w : World} {K : PySem.W.Frag} {mg : Str → Option Value} {base : Heap} {x qual : Str} {st : Stmt} {f : Addr} {fd : FuncData} {k : Nat}
theorem fn_pick (D : Fun K x qual st f fd) (Sc : FnScope npPick ["source", "most"] (defScope st))
    (body : ∀ (X : Cx) (cdv : Value) (A : Around) (outer : List Env) (s : Shared) (H : Hp) (E : XK), X = (cxOf CX0 P w K mg base npPick qual (defScope st) f cdv A outer s H E).nox → Gd X k → PSs X (defBody st) (tPick K)) :
    FnG P w K mg base (k + 1) f fd ["source", "most"] (promS 1 spPick) := by
  refine fnG_of D Sc (fun vs H Q E ⟨a, l, us, e, h, _⟩ => by rw [e, List.length_cons, h]; rfl) fun X cdv A outer s H E hX gd vs Q ⟨a, l, us, ev, hl, F, S, ds, P', hap, h1, h2, h3, h4, ne, hs, r, ⟨m, hd, hm, hP⟩, q⟩ => ⟨_, body X cdv A outer s H E hX gd, ?_⟩
  subst ev hd
  obtain ⟨u, rfl⟩ : ∃ u, us = [u] := match us, hl with | [u], _ => ⟨u, rfl⟩
  cases r with
  | cons r rr =>
    cases r
    refine pick_go hs ne hm fun r H' hr0 hrm hs' off => ?_
    have keep : ∀ {G : Hp}, Same G H → G a = none → G l = none → Same G H' := fun e na nl b o hb => by
      rw [off b (ne_of_none hb na) (ne_of_none hb nl)]; exact e _ _ hb
    exact q _ _ _ _ (hP r hr0 hrm) (Le.refl S) ⟨keep hap.1 h1 h3, keep hap.2.1 h2 h4, hap.2.2⟩ h1 h3 hs' (.int r)
theorem fn_open (D : Fun K x qual st f fd) (Sc : FnScope npOpen ["script"] (defScope st))
    (body : ∀ (X : Cx) (cdv : Value) (A : Around) (outer : List Env) (s : Shared) (H : Hp) (E : XK), X = (cxOf CX0 P w K mg base npOpen qual (defScope st) f cdv A outer s H E).nox → Gd X k → PSs X (defBody st) (tOpen K)) :
    FnG P w K mg base (k + 1) f fd ["script"] (spOpen K) := by
  refine fnG_of D Sc (fun vs H Q E ⟨a, ns, e, _⟩ => by rw [e]; rfl) fun X cdv A outer s H E hX gd vs Q ⟨a, ns, ev, hs, hl, q⟩ => ⟨_, body X cdv A outer s H E hX gd, ?_⟩
  subst ev
  exact open_go hs hl q
/-! ### the law -/
/-- the law's own promise: True, from a list of at most 63 whole numbers -/
def spLaw (K : PySem.W.Frag) : Sp := fun vs H Q _ => ∃ (a : Addr) (ns : List Int), vs = [.ref a] ∧ Only H ∧ SqL K H a (ns.map V.int) ∧ ns.length ≤ 63 ∧ ∀ H', Q (.bl true) H'
abbrev h0 : Hp := fun _ => none
/-- the law: its source opened, the rest by its wp -/
theorem fn_law {N : List Str} {rest : List Stmt} {s1 : Stmt} {W : WS} (D : Fun K x qual st f fd) (Sc : FnScope N ["script"] (defScope st)) (hN : 2 ≤ N.length) (hb : defBody st = s1 :: rest)
    (first : ∀ (X : Cx) (cdv : Value) (A : Around) (outer : List Env) (s : Shared) (H : Hp) (E : XK), X = (cxOf CX0 P w K mg base N qual (defScope st) f cdv A outer s H E).nox → Gd X k → PS X s1 (tAsg (fun σ H Q => (tCons (tVar 0) tNil) σ H fun vs H1 => spOpen K vs H1 Q E0) (gName 1)))
    (body : ∀ (X : Cx) (cdv : Value) (A : Around) (outer : List Env) (s : Shared) (H : Hp) (E : XK), X = (cxOf CX0 P w K mg base N qual (defScope st) f cdv A outer s H E).nox → Gd X k → ASs X rest W)
    (pure : ∀ (a l : Addr), W { nx := fun _ => False, rt := fun d _ => d = .bool true } (.unk :: .own (.src a l) :: List.replicate (N.length - 2) .unk)) :
    FnG P w K mg base (k + 1) f fd ["script"] (spLaw K) := by
  refine fnG_of D Sc (fun vs H Q E ⟨a, ns, e, _⟩ => by rw [e]; rfl) fun X cdv A outer s H E hX gd vs Q ⟨a, ns, ev, ho, hs, hl, q⟩ => ?_
  subst ev
  rw [hb]
  refine ⟨_, pss_cons (first X cdv A outer s H E hX gd) ((body X cdv A outer s H E hX gd).pss h0), ?_⟩
  obtain ⟨n, hn⟩ : ∃ n, N.length = n + 2 := ⟨N.length - 2, by omega⟩
  have hst : L2.start N [V.ref a] = some (.ref a) :: none :: List.replicate n none := by
    unfold L2.start
    rw [hn]
    rfl
  rw [hst]
  refine ⟨.ref a, rfl, a, ns, rfl, hs, hl, fun p l H' e1 hp hl' ne hsrc => ?_⟩
  have R : Rel h0 h0 (some (.ref a) :: some (.ref p) :: List.replicate n none) H' (.unk :: .own (.src p l) :: List.replicate n .unk) := by
    refine ⟨fun i => if i = 1 then [p, l] else [], ?_⟩
    have hne := src_ne hsrc
    exact {
      len := by simp
      slot := fun i av hi => by
        match i, hi with
        | 0, hi => cases hi; exact rfl
        | 1, hi => cases hi; exact ⟨p, rfl, rfl, rfl, hsrc⟩
        | i + 2, hi =>
          rw [if_neg (by omega)]
          rw [List.getElem?_cons_succ, List.getElem?_cons_succ, List.getElem?_replicate] at hi
          split at hi
          · cases hi; exact rfl
          · cases hi
      nd := fun i => by
        by_cases e : i = 1
        · rw [if_pos e]; simp [ne]
        · rw [if_neg e]; exact List.nodup_nil
      dis := fun i j b hi hj => by
        by_cases e : i = 1
        · by_cases e2 : j = 1
          · rw [e, e2]
          · rw [if_neg e2] at hj; cases hj
        · rw [if_neg e] at hi; cases hi
      out := fun i b hb => by
        by_cases e : i = 1
        · rw [if_pos e] at hb
          rcases List.mem_cons.mp hb with rfl | hb
          · exact ⟨rfl, rfl, hne.1⟩
          · rw [List.mem_singleton.mp hb]
            exact ⟨rfl, rfl, hne.2⟩
        · rw [if_neg e] at hb; cases hb
      sub := fun _ _ z => by cases z
      frm := fun _ _ z => by cases z
      apt := ⟨fun _ _ _ => rfl, fun _ _ z => by cases z⟩ }
  have hp := pure p l
  rw [hn] at hp
  exact ⟨h0, _, _, R, hp, fun ρ' S' σ' H2 h => h.elim, fun d ρ' S' σ' H2 v h _ _ r => by subst h; cases r; exact q _, fun _ _ _ _ h => h.elim, fun _ _ _ _ h => h.elim⟩
end
end AL

set_option Elab.async false
set_option linter.all false
set_option maxRecDepth 100000
set_option maxHeartbeats 4000000
namespace AL
open PySem PySem.Spec PyProof.Rows L2
/-! ### the law is called -/
section
variable {P : Program} {w : World} {K : PySem.W.Frag} {mg mb : Str → Option Value} {k : Nat} {fa a : Addr} {fd : FuncData} {x : Str} {t : Shared} {xs : List Value} {ns : List Int}
abbrev LawDone (t : Shared) : Result → Shared → Prop := fun r t' => r = .ok (.ret (.bool true)) ∧ OldK t.heap t'.heap ∧ t'.os = t.os ∧ AllBare t'.gens
/-- from an abstract heap that tracks the script at most -/
theorem law_from (kin : K.In t.heap) (gl : t.heap.Ns mainGlobals mg) (bu : t.heap.Ns builtinsNs mb) (bb : ∀ x : Str, x ≠ "__name__" → mb x = bootBuiltins x) (nl : t.heap.NoLimit) (ng : t.gens = #[])
    (sc : t.heap.get? a = some { cls := .type "list", data := .seq xs.toArray }) (ln : ns.length ≤ 63) (rm : Room k callerA)
    (F : ∀ base : Heap, K.In base → base.Ns mainGlobals mg → FnG P w K mg base k fa fd [x] (spLaw K)) (bd : ∀ (s : Shared) (u : Value), BindsTo s fd ⟨[u], []⟩ [(x, u)])
    (H : Hp) (only : Only H) (sq : SqL K H a (ns.map V.int)) (ok : HOk P w H t.heap) (at_ : ∀ b u, H b = some u → b = a) (out : H a ≠ none → K.lookup a = none) :
    codeAny (model P w) callerA (.call (.ref fa) ⟨[.ref a], []⟩) (LawDone t) t := by
  have untracked : ∀ (b : Addr) (o : Obj), t.heap.get? b = some o → H b = none → (hidT t.heap H).get? b = some o := fun b o e n => hidT_get e n
  have dictFree : ∀ (b : Addr) (o : Obj) (es : Array DictEntry) (ep : Nat), t.heap.get? b = some o → o.data = .dict es ep → H b = none := fun b o es ep e d => by
    cases hu : H b with
    | none => rfl
    | some u =>
      obtain rfl := at_ b u hu
      rw [sc] at e
      cases e
      cases d
  have space : ∀ (b : Addr) (m : Str → Option Value), t.heap.Ns b m → (hidT t.heap H).Ns b m := fun b m ⟨o, es, ep, e, d, r⟩ => ⟨o, es, ep, untracked b o e (dictFree b o es ep e d), d, r⟩
  have kinH : K.In (hidT t.heap H) := fun b o e => untracked b o (kin b o e) (by
    cases hu : H b with
    | none => rfl
    | some u =>
      obtain rfl := at_ b u hu
      rw [out (by rw [hu]; exact (fun z => by cases z))] at e
      cases e)
  obtain ⟨mc, l1, l2⟩ := nl
  have md : Mod K mg (hidT t.heap H) := ⟨kinH, space _ _ gl, ⟨mb, space _ _ bu, bb⟩, ⟨mc, space _ _ l1, l2⟩⟩
  have env : Env0 P w K mg (hidT t.heap H) callerA [] t H := ⟨rfl, md, (fun b o e => of_hidT e), Nat.le_of_eq (hidT_size _ _), trivial, (fun b hb => nomatch (show b ∈ ([] : List Addr) from hb)), ok, .of_eq ng⟩
  refine codeAny_mono ((F _ kinH (space _ _ gl)).go callerA [] t H ⟨[.ref a], []⟩ [.ref a] [.ref a] (fun v _ => v = .bl true) (fun _ _ _ => False) rm rfl env (bd t (.ref a)) (.cons rfl .nil) ⟨a, ns, rfl, only, sq, ln, fun _ => rfl⟩) fun r t' h => ?_
  match r, h with
  | .error e, h => exact False.elim h
  | .ok .next, h => exact False.elim h
  | .ok .brk, h => exact False.elim h
  | .ok .cont, h => exact False.elim h
  | .ok (.ret u), ⟨v, H2, os, bare, un, ok2, rv, hv⟩ =>
    obtain rfl : v = .bl true := hv
    obtain rfl : u = Value.bool true := rv
    refine ⟨rfl, OldK.of_keep fun b o e => ?_, os, bare⟩
    rcases only b with hb | ⟨ob, ys, hb⟩
    · exact un.keep b o e hb (fun z => nomatch (show b ∈ ([] : List Addr) from z)) (by simp)
    · obtain ⟨g1, _⟩ := ok b _ hb
      obtain ⟨g2, _⟩ := ok2 b _ (un.frzs b ob _ hb)
      rw [e] at g1
      cases g1
      exact g2
theorem law_done (kin : K.In t.heap) (gl : t.heap.Ns mainGlobals mg) (bu : t.heap.Ns builtinsNs mb) (bb : ∀ x : Str, x ≠ "__name__" → mb x = bootBuiltins x) (nl : t.heap.NoLimit) (ng : t.gens = #[])
    (sc : t.heap.get? a = some { cls := .type "list", data := .seq xs.toArray }) (ia : IntsAre xs ns) (ln : ns.length ≤ 63) (rm : Room k callerA)
    (F : ∀ base : Heap, K.In base → base.Ns mainGlobals mg → FnG P w K mg base k fa fd [x] (spLaw K)) (bd : ∀ (s : Shared) (u : Value), BindsTo s fd ⟨[u], []⟩ [(x, u)]) :
    codeAny (model P w) callerA (.call (.ref fa) ⟨[.ref a], []⟩) (LawDone t) t := by
  have lx := ia.length
  have small : ns.length ≤ sizeLine := Nat.le_trans ln (by decide)
  have vv := vals_ints ia
  by_cases hk : K.lookup a = none
  · -- the script is no object of the module: it is tracked, frozen
    let o : Obj := { cls := .type "list", data := .seq xs.toArray }
    let H : Hp := upd (fun _ => none) a (.frz o (.lst (ns.map V.int)))
    have one : ∀ b u, H b = some u → b = a ∧ u = .frz o (.lst (ns.map V.int)) := fun b u hu => by
      by_cases e : b = a
      · subst e
        have : H b = some (.frz o (.lst (ns.map V.int))) := upd_same
        rw [this] at hu
        exact ⟨rfl, (Option.some.inj hu).symm⟩
      · have : H b = none := upd_ne e
        rw [this] at hu
        cases hu
    refine law_from kin gl bu bb nl ng sc ln rm F bd H (fun b => ?_) (.inl (.inr ⟨o, upd_same⟩)) (fun b u hu => ?_) (fun b u hu => (one b u hu).1) fun _ => hk
    · cases hu : H b with
      | none => exact .inl rfl
      | some u => exact .inr ⟨o, _, by rw [(one b u hu).2]⟩
    · obtain ⟨rfl, rfl⟩ := one b u hu
      exact ⟨sc, by rw [List.length_map]; exact small, xs, _, vv, sc⟩
  · cases ho : K.lookup a with
    | none => exact absurd ho hk
    | some o =>
      have e := kin a o ho
      rw [sc] at e
      cases e
      exact law_from kin gl bu bb nl ng sc ln rm F bd (fun _ => none) (fun _ => .inl rfl) (.inr ⟨_, xs.toArray, _, ho, rfl, rfl, rfl, by rw [List.size_toArray, lx]; exact small, by simpa using vv⟩) (fun b u z => by cases z) (fun b u z => by cases z) fun z => absurd rfl z
end
/-- what k_head leaves, from the law's def -/
theorem law_walk {l : PySem.W.OpenLaw} {k : Nat} {q : Program} {loose : List Str} {XP : (Str → Option Value) → Heap → Prop} {YP : World → Heap → Prop} {d : DefRec} {K : Params → PySem.W.Frag} {x : Str}
    (most : l.most = some 63) (nodef : d.params.defaults = []) (rm : Room k callerA) (kin : ∀ (w : World) (h : Heap), YP w h → (K w.params).In h)
    (F : ∀ (w : World) (mg : Str → Option Value) (fa : Addr) (h : Heap), (K w.params).In h → h.Ns mainGlobals mg → mg d.name = some (.ref fa) →
      ∃ fd : FuncData, (∀ (s : Shared) (u : Value), BindsTo s fd ⟨[u], []⟩ [(x, u)]) ∧ ∀ base : Heap, (K w.params).In base → base.Ns mainGlobals mg → FnG l.prog w (K w.params) mg base k fa fd [x] (spLaw (K w.params))) :
    PySem.W.WalkO q loose XP YP l.row.toRowW d [] (fun f vs => PySem.call f vs) :=
  Att.attach_call most nodef fun w _ t mg mb fa o pm cd doc a xs ns G Y _ _ _ gname sc ia ln ng => by
    obtain ⟨fd, bd, h⟩ := F w mg fa _ (kin w _ Y) G.T.g gname
    exact law_done (kin w _ Y) G.T.g G.T.b G.T.builtins G.T.nolimit ng sc ia ln rm h bd
end AL

set_option Elab.async false
set_option linter.all false
set_option maxRecDepth 100000
set_option maxHeartbeats 4000000
namespace AL
open PySem PySem.Spec PyProof.Rows L2
/-! ### the rules in short -/
/-- built-in names that stand for themselves -/
structure Blt (mg : Str → Option Value) : Prop where
  len : mg "len" = none
  range : mg "range" = none
  tuple : mg "tuple" = none
  list : mg "list" = none
  sorted : mg "sorted" = none
  repr : mg "repr" = none
  int : mg "int" = none
  abs : mg "abs" = none
  min : mg "min" = none
  max : mg "max" = none
  sum : mg "sum" = none
  any : mg "any" = none
  all : mg "all" = none
  isinstance : mg "isinstance" = none
  enumerate : mg "enumerate" = none
  zip : mg "zip" = none
  dict : mg "dict" = none
/-- a def that may be called -/
def Cal (P : Program) (w : World) (K : PySem.W.Frag) (mg : Str → Option Value) (base : Heap) (k : Nat) (y : Str) (ps : List Str) (sp : Sp) : Prop :=
  ∃ f fd, FnG P w K mg base k f fd ps sp ∧ mg y = some (.ref f) ∧ PySem.W.keepIn K (.ref f) = true ∧ Binds K fd ps []
theorem Cal.mono {P : Program} {w : World} {K : PySem.W.Frag} {mg : Str → Option Value} {base : Heap} {j k : Nat} {y : Str} {ps : List Str} {sp : Sp} (c : Cal P w K mg base j y ps sp) (h : j ≤ k) : Cal P w K mg base k y ps sp :=
  let ⟨f, fd, G, r⟩ := c; ⟨f, fd, G.mono h, r⟩
section
variable {X : Cx} {k n : Nat} {a b c e : Expr} {es : List Expr} {p pos : Pos} {x : Str} {w wa wb : WE} {u : WA}
theorem nv (i : Nat) (hN : X.N[i]? = some x := by rfl) (hv : Vis X.env.scope x := by first | exact Or.inl rfl | exact Or.inr (Or.inl rfl) | exact Or.inr (Or.inr rfl)) (hd : (x == ("__debug__" : Str)) = false := by decide) (hcd : (x == ("__classdict__" : Str)) = false := by decide) :
    AE X (.Name x pos) (wVar i) := ae_var hN hv hd hcd
theorem gu (gd : Gd X k) : X.A.units + 65 < cLine := gd.room.un |> fun h => by omega
theorem r_lt (gd : Gd X k) (ha : AE X a wa) (hb : AE X b wb) : AE X (.Compare a [.Lt] [b] pos) (wBin ltD wa wb) := ae_lt (by have := gu gd; omega) ha hb (nomark _)
theorem r_le (gd : Gd X k) (ha : AE X a wa) (hb : AE X b wb) : AE X (.Compare a [.LtE] [b] pos) (wBin leD wa wb) := ae_le (by have := gu gd; omega) ha hb (nomark _)
theorem r_gt (ha : AE X a wa) (hb : AE X b wb) : AE X (.Compare a [.Gt] [b] pos) (wBin (cmpD fun i j => decide (i > j)) wa wb) := ae_gt ha hb (nomark _)
theorem r_ge (ha : AE X a wa) (hb : AE X b wb) : AE X (.Compare a [.GtE] [b] pos) (wBin (cmpD fun i j => decide (i ≥ j)) wa wb) := ae_ge ha hb (nomark _)
theorem r_eq (gd : Gd X k) (ha : AE X a wa) (hb : AE X b wb) : AE X (.Compare a [.Eq] [b] pos) (wBin eqD wa wb) := ae_eq (by have := gu gd; omega) ha hb (nomark _)
theorem r_ne (gd : Gd X k) (ha : AE X a wa) (hb : AE X b wb) : AE X (.Compare a [.NotEq] [b] pos) (wBin neD wa wb) := ae_ne (by have := gu gd; omega) ha hb (nomark _)
theorem r_in (gd : Gd X k) (ha : AE X a wa) (hb : AE X b wb) (hm : behindInMarks .In b = false := by rfl) : AE X (.Compare a [.In] [b] pos) (wBin (inD false) wa wb) := ae_in (by have := gu gd; omega) ha hb hm
theorem r_ni (gd : Gd X k) (ha : AE X a wa) (hb : AE X b wb) (hm : behindInMarks .NotIn b = false := by rfl) : AE X (.Compare a [.NotIn] [b] pos) (wBin (inD true) wa wb) := ae_notIn (by have := gu gd; omega) ha hb hm
theorem t_lt (gd : Gd X k) (ha : AE X a wa) (hb : AE X b wb) : AT X (.Compare a [.Lt] [b] pos) (wtB (wBin ltD wa wb)) := at_cmp (op_ltAll (by have := gu gd; omega)) op2_lt ha hb (nomark _)
theorem t_le (gd : Gd X k) (ha : AE X a wa) (hb : AE X b wb) : AT X (.Compare a [.LtE] [b] pos) (wtB (wBin leD wa wb)) := at_cmp (op_leAll (by have := gu gd; omega)) op2_le ha hb (nomark _)
theorem t_gt (ha : AE X a wa) (hb : AE X b wb) : AT X (.Compare a [.Gt] [b] pos) (wtB (wBin (cmpD fun i j => decide (i > j)) wa wb)) := at_cmp op_gt op2_cmp ha hb (nomark _)
theorem t_ge (ha : AE X a wa) (hb : AE X b wb) : AT X (.Compare a [.GtE] [b] pos) (wtB (wBin (cmpD fun i j => decide (i ≥ j)) wa wb)) := at_cmp op_ge op2_cmp ha hb (nomark _)
theorem t_eq (gd : Gd X k) (ha : AE X a wa) (hb : AE X b wb) : AT X (.Compare a [.Eq] [b] pos) (wtB (wBin eqD wa wb)) := at_cmp (op_eqA (by have := gu gd; omega)) op2_eq ha hb (nomark _)
theorem t_ne (gd : Gd X k) (ha : AE X a wa) (hb : AE X b wb) : AT X (.Compare a [.NotEq] [b] pos) (wtB (wBin neD wa wb)) := at_cmp (op_neA (by have := gu gd; omega)) op2_ne ha hb (nomark _)
/-- a comparison as a test -/
theorem t_cmp {op : CmpOp} (h : AE X (.Compare a [op] [b] pos) w) (he : ∀ whole, isTrue (.Compare a [op] [b] pos) X.env whole = (do let v ← whole; standAt (Expr.pos (.Compare a [op] [b] pos)); holding [v] (truthy v)) := by intro _; rfl) : AT X (.Compare a [op] [b] pos) (wtB w) := at_val h he
theorem r_len (B : Blt X.mg) (ha : AE X a w) (hg : Gl X "len" := by rfl) (he : starEach (a :: []) X.env = (false, eval a X.env) :: starEach [] X.env := by rfl) (hpl : (backTo pos (starEach [] X.env)).any (·.1) = false := by rfl) : AE X (.Call (.Name "len" p) [a] [] pos) (wUn lenD w) := ae_len hg B.len ha he hpl
theorem r_lenV {pn : Pos} (i : Nat) (B : Blt X.mg) (hN : X.N[i]? = some x := by rfl) (hv : Vis X.env.scope x := by first | exact Or.inl rfl | exact Or.inr (Or.inl rfl) | exact Or.inr (Or.inr rfl)) (hg : Gl X "len" := by rfl) (hd : (x == ("__debug__" : Str)) = false := by decide) (hcd : (x == ("__classdict__" : Str)) = false := by decide)
    (he : starEach (.Name x pn :: []) X.env = (false, eval (.Name x pn) X.env) :: starEach [] X.env := by rfl) (hpl : (backTo pos (starEach [] X.env)).any (·.1) = false := by rfl) : AE X (.Call (.Name "len" p) [.Name x pn] [] pos) (wLenV i) := ae_lenV hN hv hg B.len hd hcd he hpl
theorem r_ixV {pn : Pos} (i : Nat) (h : AE X e w) (hN : X.N[i]? = some x := by rfl) (hv : Vis X.env.scope x := by first | exact Or.inl rfl | exact Or.inr (Or.inl rfl) | exact Or.inr (Or.inr rfl)) (hs : PlainIx e := by intro _ _; rfl) (hd : (x == ("__debug__" : Str)) = false := by decide) (hcd : (x == ("__classdict__" : Str)) = false := by decide) :
    AE X (.Subscript (.Name x pn) e pos) (fun P ρ => (∃ xs, ρ[i]? = some (.own (.lst xs))) ∧ wIxV i w P ρ) := ae_ixV hN hv h hs trivial hd hcd
theorem r_revV {pn p1 p2 p3 : Pos} {kk : Nat} (i : Nat) (hN : X.N[i]? = some x := by rfl) (hv : Vis X.env.scope x := by first | exact Or.inl rfl | exact Or.inr (Or.inl rfl) | exact Or.inr (Or.inr rfl)) (hd : (x == ("__debug__" : Str)) = false := by decide) (hcd : (x == ("__classdict__" : Str)) = false := by decide) :
    AE X (.Subscript (.Name x pn) (.Slice none none (some (.UnaryOp .USub (.Constant (.int 1) kk p1) p2)) p3) pos) (wRevV i) := ae_revV hN hv hd hcd
theorem r_tupV {pn : Pos} (i : Nat) (B : Blt X.mg) (hN : X.N[i]? = some x := by rfl) (hv : Vis X.env.scope x := by first | exact Or.inl rfl | exact Or.inr (Or.inl rfl) | exact Or.inr (Or.inr rfl)) (hg : Gl X "tuple" := by rfl) (hd : (x == ("__debug__" : Str)) = false := by decide) (hcd : (x == ("__classdict__" : Str)) = false := by decide)
    (he : starEach (.Name x pn :: []) X.env = (false, eval (.Name x pn) X.env) :: starEach [] X.env := by rfl) (hpl : (backTo pos (starEach [] X.env)).any (·.1) = false := by rfl) : AE X (.Call (.Name "tuple" p) [.Name x pn] [] pos) (wTupV i) := ae_tupV hN hv hg B.tuple hd hcd he hpl
theorem r_eqV {pn : Pos} (i : Nat) (gd : Gd X k) (h : AE X e w) (hN : X.N[i]? = some x := by rfl) (hv : Vis X.env.scope x := by first | exact Or.inl rfl | exact Or.inr (Or.inl rfl) | exact Or.inr (Or.inr rfl)) (hd : (x == ("__debug__" : Str)) = false := by decide) (hcd : (x == ("__classdict__" : Str)) = false := by decide) :
    AE X (.Compare (.Name x pn) [.Eq] [e] pos) (wEqV false i w) := ae_eqV (by have := gu gd; omega) hN hv h (nomark _) hd hcd
theorem r_neV {pn : Pos} (i : Nat) (gd : Gd X k) (h : AE X e w) (hN : X.N[i]? = some x := by rfl) (hv : Vis X.env.scope x := by first | exact Or.inl rfl | exact Or.inr (Or.inl rfl) | exact Or.inr (Or.inr rfl)) (hd : (x == ("__debug__" : Str)) = false := by decide) (hcd : (x == ("__classdict__" : Str)) = false := by decide) :
    AE X (.Compare (.Name x pn) [.NotEq] [e] pos) (wEqV true i w) := ae_neV (by have := gu gd; omega) hN hv h (nomark _) hd hcd
theorem r_tuple (B : Blt X.mg) (ha : AE X a w) (hg : Gl X "tuple" := by rfl) (he : starEach (a :: []) X.env = (false, eval a X.env) :: starEach [] X.env := by rfl) (hpl : (backTo pos (starEach [] X.env)).any (·.1) = false := by rfl) : AE X (.Call (.Name "tuple" p) [a] [] pos) (wUn tupD w) := ae_tuple hg B.tuple ha he hpl
theorem o_list (B : Blt X.mg) (ha : AE X a w) (hg : Gl X "list" := by rfl) (he : starEach (a :: []) X.env = (false, eval a X.env) :: starEach [] X.env := by rfl) (hpl : (backTo pos (starEach [] X.env)).any (·.1) = false := by rfl) : AO X (.Call (.Name "list" p) [a] [] pos) (wUnO lstD w) := ao_list hg B.list ha he hpl
theorem r_int (B : Blt X.mg) (ha : AE X a w) (hg : Gl X "int" := by rfl) (he : starEach (a :: []) X.env = (false, eval a X.env) :: starEach [] X.env := by rfl) (hpl : (backTo pos (starEach [] X.env)).any (·.1) = false := by rfl) : AE X (.Call (.Name "int" p) [a] [] pos) (wUn intOfD w) := ae_intOf hg B.int ha he hpl
theorem r_abs (B : Blt X.mg) (ha : AE X a w) (hg : Gl X "abs" := by rfl) (he : starEach (a :: []) X.env = (false, eval a X.env) :: starEach [] X.env := by rfl) (hpl : (backTo pos (starEach [] X.env)).any (·.1) = false := by rfl) : AE X (.Call (.Name "abs" p) [a] [] pos) (wUn absD w) := ae_abs hg B.abs ha he hpl
theorem r_repr (gd : Gd X k) (B : Blt X.mg) (ha : AE X a w) (hg : Gl X "repr" := by rfl) (he : starEach (a :: []) X.env = (false, eval a X.env) :: starEach [] X.env := by rfl) (hpl : (backTo pos (starEach [] X.env)).any (·.1) = false := by rfl) : AE X (.Call (.Name "repr" p) [a] [] pos) (wUn reprD w) := ae_repr gd hg B.repr ha he hpl
theorem r_sum (B : Blt X.mg) (ha : AE X a w) (hc : X.calm = true := by rfl) (hg : Gl X "sum" := by rfl) (he : starEach (a :: []) X.env = (false, eval a X.env) :: starEach [] X.env := by rfl) (hpl : (backTo pos (starEach [] X.env)).any (·.1) = false := by rfl) : AE X (.Call (.Name "sum" p) [a] [] pos) (wUn sumD w) := ae_sum hc hg B.sum ha he hpl
theorem r_any (B : Blt X.mg) (ha : AE X a w) (hc : X.calm = true := by rfl) (hg : Gl X "any" := by rfl) (he : starEach (a :: []) X.env = (false, eval a X.env) :: starEach [] X.env := by rfl) (hpl : (backTo pos (starEach [] X.env)).any (·.1) = false := by rfl) : AE X (.Call (.Name "any" p) [a] [] pos) (wUn anyD w) := ae_any hc hg B.any ha he hpl
theorem r_all (B : Blt X.mg) (ha : AE X a w) (hc : X.calm = true := by rfl) (hg : Gl X "all" := by rfl) (he : starEach (a :: []) X.env = (false, eval a X.env) :: starEach [] X.env := by rfl) (hpl : (backTo pos (starEach [] X.env)).any (·.1) = false := by rfl) : AE X (.Call (.Name "all" p) [a] [] pos) (wUn allD w) := ae_all hc hg B.all ha he hpl
theorem r_max1 (B : Blt X.mg) (ha : AE X a w) (hc : X.calm = true := by rfl) (hg : Gl X "max" := by rfl) (he : starEach (a :: []) X.env = (false, eval a X.env) :: starEach [] X.env := by rfl) (hpl : (backTo pos (starEach [] X.env)).any (·.1) = false := by rfl) : AE X (.Call (.Name "max" p) [a] [] pos) (wUn maxLD w) := ae_maxL hc hg B.max ha he hpl
theorem r_min1 (B : Blt X.mg) (ha : AE X a w) (hc : X.calm = true := by rfl) (hg : Gl X "min" := by rfl) (he : starEach (a :: []) X.env = (false, eval a X.env) :: starEach [] X.env := by rfl) (hpl : (backTo pos (starEach [] X.env)).any (·.1) = false := by rfl) : AE X (.Call (.Name "min" p) [a] [] pos) (wUn minLD w) := ae_minL hc hg B.min ha he hpl
end
end AL

set_option Elab.async false
set_option linter.all false
set_option maxRecDepth 100000
set_option maxHeartbeats 4000000
namespace AL
open PySem PySem.Spec PyProof.Rows L2
section
variable {X : Cx} {k n : Nat} {a b c e : Expr} {es : List Expr} {p pos pn : Pos} {x y : Str} {w wa wb wc : WE} {u : WA}
theorem r_max2 (B : Blt X.mg) (ha : AE X a wa) (hb : AE X b wb) (hc : X.calm = true := by rfl) (hg : Gl X "max" := by rfl) (he : starEach (a :: [b]) X.env = (false, eval a X.env) :: starEach [b] X.env := by rfl) (he2 : starEach (b :: []) X.env = (false, eval b X.env) :: starEach [] X.env := by rfl) (hpl : (backTo pos (starEach [b] X.env)).any (·.1) = false := by rfl) :
    AE X (.Call (.Name "max" p) [a, b] [] pos) (wBin2 (fun i j => if j > i then j else i) wa wb) := ae_max2 hc hg B.max ha hb he he2 hpl
theorem r_min2 (B : Blt X.mg) (ha : AE X a wa) (hb : AE X b wb) (hc : X.calm = true := by rfl) (hg : Gl X "min" := by rfl) (he : starEach (a :: [b]) X.env = (false, eval a X.env) :: starEach [b] X.env := by rfl) (he2 : starEach (b :: []) X.env = (false, eval b X.env) :: starEach [] X.env := by rfl) (hpl : (backTo pos (starEach [b] X.env)).any (·.1) = false := by rfl) :
    AE X (.Call (.Name "min" p) [a, b] [] pos) (wBin2 (fun i j => if j < i then j else i) wa wb) := ae_min2 hc hg B.min ha hb he he2 hpl
theorem o_sorted (gd : Gd X k) (B : Blt X.mg) (ha : AE X a w) (hg : Gl X "sorted" := by rfl) (he : starEach (a :: []) X.env = (false, eval a X.env) :: starEach [] X.env := by rfl) (hpl : (backTo pos (starEach [] X.env)).any (·.1) = false := by rfl) : AO X (.Call (.Name "sorted" p) [a] [] pos) (wUnO sortD w) := ao_sorted gd hg B.sorted ha he hpl
theorem o_sortedK (D : DKind) (gd : Gd X k) (B : Blt X.mg) (ha : AE X a w) (hc : X.calm = true := by rfl) (hg : Gl X "sorted" := by rfl) (he : starEach (a :: []) X.env = (false, eval a X.env) :: starEach [] X.env := by rfl) (hpl : (backTo pos (starEach [] X.env)).any (·.1) = false := by rfl) : AO X (.Call (.Name "sorted" p) [a] [] pos) (wUnO (sortKD D) w) := ao_sortedK D gd hc hg B.sorted ha he hpl
theorem o_listRg1 {p2 : Pos} (B : Blt X.mg) (ha : AE X a wa) (hc : X.calm = true := by rfl) (hgl : Gl X "list" := by rfl) (hg : Gl X "range" := by rfl) (na : starEach [a] X.env = (false, eval a X.env) :: starEach [] X.env := by rfl)
    (nl : starEach [.Call (.Name "range" p2) [a] [] pn] X.env = (false, eval (.Call (.Name "range" p2) [a] [] pn) X.env) :: starEach [] X.env := by rfl) : AO X (.Call (.Name "list" p) [.Call (.Name "range" p2) [a] [] pn] [] pos) (wRg1 wa) := ao_listRg1 hc hgl B.list hg B.range ha na nl
theorem o_listRg2 {p2 : Pos} (B : Blt X.mg) (ha : AE X a wa) (hb : AE X b wb) (hc : X.calm = true := by rfl) (hgl : Gl X "list" := by rfl) (hg : Gl X "range" := by rfl) (na : starEach [a, b] X.env = (false, eval a X.env) :: starEach [b] X.env := by rfl)
    (nb : starEach [b] X.env = (false, eval b X.env) :: starEach [] X.env := by rfl) (hp : (backTo pn (starEach [b] X.env)).any (·.1) = false := by rfl)
    (nl : starEach [.Call (.Name "range" p2) [a, b] [] pn] X.env = (false, eval (.Call (.Name "range" p2) [a, b] [] pn) X.env) :: starEach [] X.env := by rfl) : AO X (.Call (.Name "list" p) [.Call (.Name "range" p2) [a, b] [] pn] [] pos) (wRg2 wa wb) := ao_listRg2 hc hgl B.list hg B.range ha hb na nb hp nl
theorem r_ix (ha : AE X a wa) (hb : AE X b wb) (hs : PlainIx b := by intro _ _; rfl) : AE X (.Subscript a b pos) (wBin ixD wa wb) := ae_ix ha hb hs
/-! dicts -/
variable (D : DKind)
theorem r_dget (gd : Gd X k) (ha : AE X a wa) (hb : AE X b wb) (hs : NoSl b := by intro _ _; rfl) : AE X (.Subscript a b pos) (wBin (dgetD D) wa wb) := ae_dget D (by have := gu gd; omega) ha hb hs
theorem r_din (gd : Gd X k) (ha : AE X a wa) (hb : AE X b wb) (hm : behindInMarks .In b = false := by rfl) : AE X (.Compare a [.In] [b] pos) (wBin (dinD D false) wa wb) := ae_din D (by have := gu gd; omega) ha hb hm
theorem r_dnin (gd : Gd X k) (ha : AE X a wa) (hb : AE X b wb) (hm : behindInMarks .NotIn b = false := by rfl) : AE X (.Compare a [.NotIn] [b] pos) (wBin (dinD D true) wa wb) := ae_dnin D (by have := gu gd; omega) ha hb hm
theorem r_dget2 {apos : Pos} (gd : Gd X k) (ha : AE X a wa) (hb : AE X b wb) (hc : AE X c wc) (m : M2 X a "get" apos b c pos := by exact ⟨rfl, rfl, rfl, rfl⟩) : AE X (.Call (.Attribute a "get" apos) [b, c] [] pos) (dget2D D wa wb wc) := ae_dget2 D (by have := gu gd; omega) ha hb hc m
theorem r_dgetV (i : Nat) (gd : Gd X k) (hb : AE X b wb) (hs : NoSl b := by intro _ _; rfl) (hN : X.N[i]? = some x := by rfl) (hv : Vis X.env.scope x := by first | exact Or.inl rfl | exact Or.inr (Or.inl rfl) | exact Or.inr (Or.inr rfl)) (hd : (x == ("__debug__" : Str)) = false := by decide) (hcd : (x == ("__classdict__" : Str)) = false := by decide) :
    AE X (.Subscript (.Name x pn) b pos) (wGetV D i wb) := ae_dgetV D (by have := gu gd; omega) hN hv hb hs hd hcd
theorem r_dinV (i : Nat) (gd : Gd X k) (ha : AE X a wa) (hN : X.N[i]? = some x := by rfl) (hv : Vis X.env.scope x := by first | exact Or.inl rfl | exact Or.inr (Or.inl rfl) | exact Or.inr (Or.inr rfl)) (hd : (x == ("__debug__" : Str)) = false := by decide) (hcd : (x == ("__classdict__" : Str)) = false := by decide) :
    AE X (.Compare a [.In] [.Name x pn] pos) (wInV D false i wa) := ae_dinV D (by have := gu gd; omega) hN hv ha hd hcd
theorem r_dninV (i : Nat) (gd : Gd X k) (ha : AE X a wa) (hN : X.N[i]? = some x := by rfl) (hv : Vis X.env.scope x := by first | exact Or.inl rfl | exact Or.inr (Or.inl rfl) | exact Or.inr (Or.inr rfl)) (hd : (x == ("__debug__" : Str)) = false := by decide) (hcd : (x == ("__classdict__" : Str)) = false := by decide) :
    AE X (.Compare a [.NotIn] [.Name x pn] pos) (wInV D true i wa) := ae_dninV D (by have := gu gd; omega) hN hv ha hd hcd
theorem r_dget2V {apos : Pos} (i : Nat) (gd : Gd X k) (hb : AE X b wb) (hc : AE X c wc) (m : M2 X (.Name x pn) "get" apos b c pos := by exact ⟨rfl, rfl, rfl, rfl⟩) (hN : X.N[i]? = some x := by rfl) (hv : Vis X.env.scope x := by first | exact Or.inl rfl | exact Or.inr (Or.inl rfl) | exact Or.inr (Or.inr rfl)) (hd : (x == ("__debug__" : Str)) = false := by decide) (hcd : (x == ("__classdict__" : Str)) = false := by decide) :
    AE X (.Call (.Attribute (.Name x pn) "get" apos) [b, c] [] pos) (wGet2V D i wb wc) := ae_dget2V D (by have := gu gd; omega) hN hv hb hc m hd hcd
theorem r_dlen (B : Blt X.mg) (ha : AE X a wa) (hg : Gl X "len" := by rfl) (he : starEach (a :: []) X.env = (false, eval a X.env) :: starEach [] X.env := by rfl) (hpl : (backTo pos (starEach [] X.env)).any (·.1) = false := by rfl) : AE X (.Call (.Name "len" p) [a] [] pos) (wDLen D wa) := ae_dlen D hg B.len ha he hpl
theorem r_dlenV (i : Nat) (B : Blt X.mg) (hN : X.N[i]? = some x := by rfl) (hv : Vis X.env.scope x := by first | exact Or.inl rfl | exact Or.inr (Or.inl rfl) | exact Or.inr (Or.inr rfl)) (hg : Gl X "len" := by rfl) (hd : (x == ("__debug__" : Str)) = false := by decide) (hcd : (x == ("__classdict__" : Str)) = false := by decide)
    (he : starEach (.Name x pn :: []) X.env = (false, eval (.Name x pn) X.env) :: starEach [] X.env := by rfl) (hpl : (backTo pos (starEach [] X.env)).any (·.1) = false := by rfl) : AE X (.Call (.Name "len" p) [.Name x pn] [] pos) (wDLenV D i) := ae_dlenV D hN hv hg B.len hd hcd he hpl
theorem r_isNil {p2 : Pos} (gd : Gd X k) (ha : AE X a wa) : AE X (.Compare a [.Eq] [.Dict [] [] p2] pos) (wIsNil D wa) := ae_isNil D (by have := gu gd; omega) ha
theorem s_dput {pos' : Pos} (i : Nat) (gd : Gd X k) (hk : AE X a wa) (h : AE X e w) (hs : swapsWith e (some (.Subscript (.Name x pn) a pos')) pos.line X.env = pure false := by rfl) (hN : X.N[i]? = some x := by rfl) (hv : Vis X.env.scope x := by first | exact Or.inl rfl | exact Or.inr (Or.inl rfl) | exact Or.inr (Or.inr rfl)) (hd : (x == ("__debug__" : Str)) = false := by decide) (hcd : (x == ("__classdict__" : Str)) = false := by decide) :
    AS X (.Assign [.Subscript (.Name x pn) a pos'] e pos) (wPutD D i w wa) := as_dput D (by have := gu gd; omega) hN hv hk h hs hd hcd
end
section
variable {X : Cx} {k n : Nat} {a b c e : Expr} {es : List Expr} {p pos pn apos spos py : Pos} {x y : Str} {w wa wb wc : WE} {u : WA}
/-! calls -/
theorem c_call {ps : List Str} {sp : Spc} (C : Cal X.prog X.w X.K X.mg X.base k x ps (prom n sp)) (gd : Gd X k) (ha : AA X (e :: es) u) (hg : Gl X x := by rfl) (hdb : (x == ("__debug__" : Str)) = false := by decide) (he : starEach (e :: es) X.env = (false, eval e X.env) :: starEach es X.env := by rfl) (hpl : (backTo pos (starEach es X.env)).any (·.1) = false := by rfl) :
    AE X (.Call (.Name x p) (e :: es) [] pos) (wCall n sp u) := let ⟨_, _, G, hm, hk, hb⟩ := C; ae_call G gd hg hm hk hb ha hdb he hpl
theorem c_callS {ps : List Str} {sp : Spc} (i : Nat) (C : Cal X.prog X.w X.K X.mg X.base k x ps (promS n sp)) (gd : Gd X k) (ha : AA X es u) (hg : Gl X x := by rfl) (hN : X.N[i]? = some y := by rfl) (hv : Vis X.env.scope y := by first | exact Or.inl rfl | exact Or.inr (Or.inl rfl) | exact Or.inr (Or.inr rfl)) (hyd : (y == ("__debug__" : Str)) = false := by decide) (hyc : (y == ("__classdict__" : Str)) = false := by decide)
    (hdb : (x == ("__debug__" : Str)) = false := by decide) (he : starEach (.Name y py :: es) X.env = (false, eval (.Name y py) X.env) :: starEach es X.env := by rfl) (hpl : (backTo pos (starEach es X.env)).any (·.1) = false := by rfl) :
    AE X (.Call (.Name x p) (.Name y py :: es) [] pos) (wCallS i n sp u) := let ⟨_, _, G, hm, hk, hb⟩ := C; ae_callS G gd hg hm hk hb hN hv ha hyd hyc hdb he hpl
/-! own lists -/
theorem r_pop (i : Nat) (hN : X.N[i]? = some x := by rfl) (hv : Vis X.env.scope x := by first | exact Or.inl rfl | exact Or.inr (Or.inl rfl) | exact Or.inr (Or.inr rfl)) (hd : (x == ("__debug__" : Str)) = false := by decide) (hcd : (x == ("__classdict__" : Str)) = false := by decide)
    (hbase : attributeBase (.Name x p) "pop" X.env (eval (.Name x p) X.env) = eval (.Name x p) X.env := by rfl) (hline : (apos.endLine == pos.line) = true := by rfl) :
    AE X (.Call (.Attribute (.Name x p) "pop" apos) [] [] pos) (wPop i) := ae_pop hN hv hd hcd hbase hline
theorem r_popAt (i : Nat) (h : AE X e w) (hN : X.N[i]? = some x := by rfl) (hv : Vis X.env.scope x := by first | exact Or.inl rfl | exact Or.inr (Or.inl rfl) | exact Or.inr (Or.inr rfl)) (hd : (x == ("__debug__" : Str)) = false := by decide) (hcd : (x == ("__classdict__" : Str)) = false := by decide)
    (hbase : attributeBase (.Name x p) "pop" X.env (eval (.Name x p) X.env) = eval (.Name x p) X.env := by rfl)
    (hfew : ((backTo pos (starEach (e :: []) X.env)).all (fun x => !x.1) && (backToKw pos (keywordEach [] X.env)).all (fun x => x.1.isSome) && decide ((e :: []).length + ([] : List Keyword).length + (if ([] : List Keyword).isEmpty then 0 else 1) < 30)) = true := by rfl)
    (hline : (apos.endLine == pos.line) = true := by rfl) (hs : starEach (e :: []) X.env = (false, eval e X.env) :: starEach [] X.env := by rfl) (hplain : (backTo pos (starEach [] X.env)).any (·.1) = false := by rfl) :
    AE X (.Call (.Attribute (.Name x p) "pop" apos) [e] [] pos) (wPopAt i w) := ae_popAt hN hv h hd hcd hbase hfew hline hs hplain
theorem s_app (i : Nat) (h : AE X e w) (hN : X.N[i]? = some x := by rfl) (hv : Vis X.env.scope x := by first | exact Or.inl rfl | exact Or.inr (Or.inl rfl) | exact Or.inr (Or.inr rfl)) (hd : (x == ("__debug__" : Str)) = false := by decide) (hcd : (x == ("__classdict__" : Str)) = false := by decide)
    (hbase : attributeBase (.Name x p) "append" X.env (eval (.Name x p) X.env) = eval (.Name x p) X.env := by rfl)
    (hfew : ((backTo pos (starEach (e :: []) X.env)).all (fun x => !x.1) && (backToKw pos (keywordEach [] X.env)).all (fun x => x.1.isSome) && decide ((e :: []).length + ([] : List Keyword).length + (if ([] : List Keyword).isEmpty then 0 else 1) < 30)) = true := by rfl)
    (hline : (apos.endLine == pos.line) = true := by rfl) (hs : starEach (e :: []) X.env = (false, eval e X.env) :: starEach [] X.env := by rfl) (hplain : (backTo pos (starEach [] X.env)).any (·.1) = false := by rfl)
    (hsw : swapsWith (.Call (.Attribute (.Name x p) "append" apos) [e] [] pos) none spos.line X.env = pure false := by rfl) :
    AS X (.Expr (.Call (.Attribute (.Name x p) "append" apos) [e] [] pos) spos) (wApp i w) := as_append hN hv h hd hcd hbase hfew hline hs hplain hsw
theorem s_appIx {p2 : Pos} (i : Nat) (ha : AE X a wa) (h : AE X e w) (hpl : PlainIx a := by intro _ _; rfl) (hN : X.N[i]? = some x := by rfl) (hv : Vis X.env.scope x := by first | exact Or.inl rfl | exact Or.inr (Or.inl rfl) | exact Or.inr (Or.inr rfl)) (hd : (x == ("__debug__" : Str)) = false := by decide) (hcd : (x == ("__classdict__" : Str)) = false := by decide)
    (hbase : attributeBase (.Subscript (.Name x pn) a p2) "append" X.env (eval (.Subscript (.Name x pn) a p2) X.env) = eval (.Subscript (.Name x pn) a p2) X.env := by rfl)
    (hfew : ((backTo pos (starEach (e :: []) X.env)).all (fun x => !x.1) && (backToKw pos (keywordEach [] X.env)).all (fun x => x.1.isSome) && decide ((e :: []).length + ([] : List Keyword).length + (if ([] : List Keyword).isEmpty then 0 else 1) < 30)) = true := by rfl)
    (hline : (apos.endLine == pos.line) = true := by rfl) (hs : starEach (e :: []) X.env = (false, eval e X.env) :: starEach [] X.env := by rfl) (hplain : (backTo pos (starEach [] X.env)).any (·.1) = false := by rfl)
    (hsw : swapsWith (.Call (.Attribute (.Subscript (.Name x pn) a p2) "append" apos) [e] [] pos) none spos.line X.env = pure false := by rfl) :
    AS X (.Expr (.Call (.Attribute (.Subscript (.Name x pn) a p2) "append" apos) [e] [] pos) spos) (wAppIx i wa w) := as_appIx hN hv ha h hpl hd hcd hbase hfew hline hs hplain hsw
/-! stores -/
theorem s_set (i : Nat) (hN : X.N.Nodup) (h : AE X e w) (hi : X.N[i]? = some x := by rfl) (hx : Loc X.env.scope x := by first | exact Or.inl rfl | exact Or.inr rfl) (hs : swapsWith e (some (.Name x pn)) pos.line X.env = pure false := by rfl) (hf : X.fn x = true ∨ X.env.scope.names.lookup x = some .local := by first | exact .inl rfl | exact .inr rfl) :
    AS X (.Assign [.Name x pn] e pos) (wSet i w) := as_set hN hi hx h hs hf
theorem s_setO {w : WO} (i : Nat) (hN : X.N.Nodup) (h : AO X e w) (hi : X.N[i]? = some x := by rfl) (hx : Loc X.env.scope x := by first | exact Or.inl rfl | exact Or.inr rfl) (hs : swapsWith e (some (.Name x pn)) pos.line X.env = pure false := by rfl) (hf : X.fn x = true ∨ X.env.scope.names.lookup x = some .local := by first | exact .inl rfl | exact .inr rfl) :
    AS X (.Assign [.Name x pn] e pos) (wSetO i w) := as_setO hN hi hx h hs hf
theorem g_name (i : Nat) (hN : X.N.Nodup) (hi : X.N[i]? = some x := by rfl) (hx : Loc X.env.scope x := by first | exact Or.inl rfl | exact Or.inr rfl) (hf : X.fn x = true ∨ X.env.scope.names.lookup x = some .local := by first | exact .inl rfl | exact .inr rfl) : AG X (.Name x pos) (gN i) := ag_name hN hi hx hf
theorem q_name (i : Nat) (hN : X.N.Nodup) (hi : X.N[i]? = some x := by rfl) (hx : Loc X.env.scope x := by first | exact Or.inl rfl | exact Or.inr rfl) (hf : X.fn x = true ∨ X.env.scope.names.lookup x = some .local := by first | exact .inl rfl | exact .inr rfl) : PG X (.Name x pos) (gName i) := pg_name hN hi hx hf
/-! what is walked -/
theorem i_r1 {tg : Expr} (B : Blt X.mg) (ha : AA X [a] u) (hg : Gl X "range" := by rfl) (hs : starEach [a] X.env = [(false, eval a X.env)] := by rfl) : AI X tg (.Call (.Name "range" p) [a] [] pos) (wiR1 u) := ai_range1 hg B.range ha hs
theorem i_r2 {tg : Expr} (B : Blt X.mg) (ha : AA X [a, b] u) (hg : Gl X "range" := by rfl) (hs : starEach [a, b] X.env = [(false, eval a X.env), (false, eval b X.env)] := by rfl) (hs2 : starEach [b] X.env = [(false, eval b X.env)] := by rfl) : AI X tg (.Call (.Name "range" p) [a, b] [] pos) (wiR2 u) := ai_range2 hg B.range ha hs hs2
theorem i_r3 {tg : Expr} (B : Blt X.mg) (ha : AA X [a, b, c] u) (hg : Gl X "range" := by rfl) (hs : starEach [a, b, c] X.env = (false, eval a X.env) :: starEach [b, c] X.env := by rfl) (hpl : (backTo pos (starEach [b, c] X.env)).any (·.1) = false := by rfl) : AI X tg (.Call (.Name "range" p) [a, b, c] [] pos) (wiR3 u) := ai_range3 hg B.range ha hs hpl
end
section
variable {X : Cx} {e : Expr} {w : WE} {u : WS} {tg iter : Expr} {wi : WI} {g : WG} {body : List Stmt} {pos py spos p2 : Pos} {t : WT}
/-! loops, comprehensions -/
theorem s_for (fg : List Nat) (hi : AI X tg iter wi) (hg : AG X tg g) (hb : ASs X body u) (hp : PassesOwn (model X.prog X.w) X.A X.env X.xe := by exact PassesOwn.never) (hc : X.calm = true := by rfl) (hs : ∀ x, foldedSetIterable iter X.env x = pure x := by intro _; rfl) : AS X (.For tg iter body [] pos) (wFor wi g u fg) := as_for fg hp hc hi hg hb hs
theorem s_while (fg : List Nat) (hc : AT X e t) (hb : ASs X body u) (hp : PassesOwn (model X.prog X.w) X.A X.env X.xe := by exact PassesOwn.never) : AS X (.While e body [] pos) (wWhile t u fg) := as_while fg hp hc hb
variable {elt : Expr} {ifs : List Expr} {scope : Scope} {own : List (Str × Nat)} {gg : TG} {sg : WG} {wt : WT} {we : WE} {i : Nat} {y : Str}
theorem o_lc (own : List (Str × Nat)) (hN : X.N.Nodup) (hi : AI X tg iter wi) (ct : CtOk X.K (own.map (·.2)) gg sg)
    (hg : ∀ (s : Shared) (H : Hp) (C : Addr) (cl : List (Str × Addr)) (fp : List Addr), PG (X.blk s H scope (compEnvC scope cl C X.env) fp) tg gg) (ht : ∀ (s : Shared) (H : Hp) (C : Addr) (cl : List (Str × Addr)) (fp : List Addr), ATs (X.blk s H scope (compEnvC scope cl C X.env) fp) ifs wt)
    (he : ∀ (s : Shared) (H : Hp) (C : Addr) (cl : List (Str × Addr)) (fp : List Addr), AE (X.blk s H scope (compEnvC scope cl C X.env) fp) elt we) (nd : (own.map (·.2)).Nodup := by decide) (ok : blkC X.N X.env.scope scope own = true := by rfl) (hc : X.calm = true := by rfl) (hs : ∀ x, foldedSetIterable iter X.env x = pure x := by intro _; rfl) :
    AO X (.ListComp elt [⟨tg, iter, ifs, 0⟩] scope pos) (wLc wi sg wt we (own.map (·.2))) := ao_lc hc hN (blkOk_by ok) hi ct nd hg ht he hs
theorem s_setLcO (i : Nat) (own : List (Str × Nat)) (hN : X.N.Nodup) (hi : AI X tg iter wi) (ct : CtOk X.K (own.map (·.2)) gg sg)
    (hg : ∀ (s : Shared) (H : Hp) (C : Addr) (cl : List (Str × Addr)) (fp : List Addr), PG (X.blk s H scope (compEnvC scope cl C X.env) fp) tg gg) (ht : ∀ (s : Shared) (H : Hp) (C : Addr) (cl : List (Str × Addr)) (fp : List Addr), ATs (X.blk s H scope (compEnvC scope cl C X.env) fp) ifs wt)
    (he : ∀ (s : Shared) (H : Hp) (C : Addr) (cl : List (Str × Addr)) (fp : List Addr), AE (X.blk s H scope (compEnvC scope cl C X.env) fp) elt we) (hy : X.N[i]? = some y := by rfl) (hyl : X.env.scope.names.lookup y = some .local := by rfl)
    (hsw : swapsWith (.ListComp elt [⟨tg, iter, ifs, 0⟩] scope pos) (some (.Name y py)) spos.line X.env = pure true := by exact sw_true rfl rfl (by rfl) (by rfl)) (nd : (own.map (·.2)).Nodup := by decide) (ok : blkC X.N X.env.scope scope own = true := by rfl) (hc : X.calm = true := by rfl) (hs : ∀ x, foldedSetIterable iter X.env x = pure x := by intro _; rfl) :
    AS X (.Assign [.Name y py] (.ListComp elt [⟨tg, iter, ifs, 0⟩] scope pos) spos) (wSetO i (wLc wi sg wt we (own.map (·.2)))) := as_setLcO hc hN hy hyl hsw (blkOk_by ok) hi ct nd hg ht he hs
theorem s_setLc (i : Nat) (own : List (Str × Nat)) (hN : X.N.Nodup) (hi : AI X tg iter wi) (ct : CtOk X.K (own.map (·.2)) gg sg)
    (hg : ∀ (s : Shared) (H : Hp) (C : Addr) (cl : List (Str × Addr)) (fp : List Addr), PG (X.blk s H scope (compEnvC scope cl C X.env) fp) tg gg) (ht : ∀ (s : Shared) (H : Hp) (C : Addr) (cl : List (Str × Addr)) (fp : List Addr), ATs (X.blk s H scope (compEnvC scope cl C X.env) fp) ifs wt)
    (he : ∀ (s : Shared) (H : Hp) (C : Addr) (cl : List (Str × Addr)) (fp : List Addr), AE (X.blk s H scope (compEnvC scope cl C X.env) fp) elt we) (hy : X.N[i]? = some y := by rfl) (hyl : X.env.scope.names.lookup y = some .local := by rfl)
    (hsw : swapsWith (.ListComp elt [⟨tg, iter, ifs, 0⟩] scope pos) (some (.Name y py)) spos.line X.env = pure true := by exact sw_true rfl rfl (by rfl) (by rfl)) (nd : (own.map (·.2)).Nodup := by decide) (ok : blkC X.N X.env.scope scope own = true := by rfl) (hc : X.calm = true := by rfl) (hs : ∀ x, foldedSetIterable iter X.env x = pure x := by intro _; rfl) :
    AS X (.Assign [.Name y py] (.ListComp elt [⟨tg, iter, ifs, 0⟩] scope pos) spos) (wSet i (wFz (wLc wi sg wt we (own.map (·.2))))) := as_setLc hc hN hy hyl hsw (blkOk_by ok) hi ct nd hg ht he hs
theorem o_lcs (own : List (Str × Nat)) (hN : X.N.Nodup) (hi : AI X tg iter wi) (ct : CtOk X.K (own.map (·.2)) gg sg)
    (hg : ∀ (s : Shared) (H : Hp) (C : Addr) (cl : List (Str × Addr)) (fp : List Addr), PG (X.blk s H scope (compEnvC scope cl C X.env) fp) tg gg) (ht : ∀ (s : Shared) (H : Hp) (C : Addr) (cl : List (Str × Addr)) (fp : List Addr), ATs (X.blk s H scope (compEnvC scope cl C X.env) fp) ifs wt)
    (nd : (own.map (·.2)).Nodup := by decide) (ok : blkC X.N X.env.scope scope own = true := by rfl) (hc : X.calm = true := by rfl) (hs : ∀ x, foldedSetIterable iter X.env x = pure x := by intro _; rfl) :
    AO X (.ListComp (.List [] p2) [⟨tg, iter, ifs, 0⟩] scope pos) (wLcs wi sg wt (own.map (·.2))) := ao_lcs hc hN (blkOk_by ok) hi ct nd hg ht hs
theorem s_setLcs (i : Nat) (own : List (Str × Nat)) (hN : X.N.Nodup) (hi : AI X tg iter wi) (ct : CtOk X.K (own.map (·.2)) gg sg)
    (hg : ∀ (s : Shared) (H : Hp) (C : Addr) (cl : List (Str × Addr)) (fp : List Addr), PG (X.blk s H scope (compEnvC scope cl C X.env) fp) tg gg) (ht : ∀ (s : Shared) (H : Hp) (C : Addr) (cl : List (Str × Addr)) (fp : List Addr), ATs (X.blk s H scope (compEnvC scope cl C X.env) fp) ifs wt)
    (hy : X.N[i]? = some y := by rfl) (hyl : X.env.scope.names.lookup y = some .local := by rfl)
    (hsw : swapsWith (.ListComp (.List [] p2) [⟨tg, iter, ifs, 0⟩] scope pos) (some (.Name y py)) spos.line X.env = pure true := by exact sw_true rfl rfl (by rfl) (by rfl)) (nd : (own.map (·.2)).Nodup := by decide) (ok : blkC X.N X.env.scope scope own = true := by rfl) (hc : X.calm = true := by rfl) (hs : ∀ x, foldedSetIterable iter X.env x = pure x := by intro _; rfl) :
    AS X (.Assign [.Name y py] (.ListComp (.List [] p2) [⟨tg, iter, ifs, 0⟩] scope pos) spos) (wSetO i (wLcs wi sg wt (own.map (·.2)))) := as_setLcs hc hN hy hyl hsw (blkOk_by ok) hi ct nd hg ht hs
end
end AL

set_option Elab.async false
set_option linter.all false
set_option maxRecDepth 100000
set_option maxHeartbeats 4000000
namespace AL
open PySem PySem.Spec PyProof.Rows L2
section
variable {X : Cx} {u : WMs} {w : WE}
theorem Rel.laid {F S H : Hp} {σ : L2.St} {ρ : AEnv} (R : Rel F S σ H ρ) {p : Addr} (hp : H p = none) (o : HO) : Rel F S σ (upd H p o) ρ := by
  obtain ⟨fp, R⟩ := R
  exact ⟨fp, R.laid hp o⟩
/-- a, b = x, y by way of a tuple -/
theorem as_parT {i j : Nat} {x y : Str} {a b : Expr} {px py pt pos : Pos} {kt k2 pt2} (hN : X.N.Nodup) (ha : AMs X [a, b] u) (hc : X.calm = true := by rfl) (hi : X.N[i]? = some x := by rfl) (hj : X.N[j]? = some y := by rfl)
    (hx : Loc X.env.scope x := by first | exact Or.inl rfl | exact Or.inr rfl) (hfx : X.fn x = true ∨ X.env.scope.names.lookup x = some .local := by first | exact .inl rfl | exact .inr rfl) (hy : Loc X.env.scope y := by first | exact Or.inl rfl | exact Or.inr rfl) (hfy : X.fn y = true ∨ X.env.scope.names.lookup y = some .local := by first | exact .inl rfl | exact .inr rfl)
    (hw : swappedStores [.Tuple [.Name x px, .Name y py] kt pt] (.Tuple [a, b] k2 pt2) X.env = pure none := by rfl) (hs : swapsWithSole [.Tuple [.Name x px, .Name y py] kt pt] (.Tuple [a, b] k2 pt2) pos.line X.env = pure false := by rfl) :
    AS X (.Assign [.Tuple [.Name x px, .Name y py] kt pt] (.Tuple [a, b] k2 pt2) pos) (wPar i j u) :=
  ⟨fun F => PSimp (ps_asg (pe_tup (ha.pa F)) (pg_tup hc (pgs_cons (pg_name hN hi hx hfx) (pgs_cons (pg_name hN hj hy hfy) pgs_nil))) hs hw) fun D σ H ⟨S, ρ, k, R, h, q, _⟩ => ⟨S, ρ, _, R, h, fun ms ρ' S' H' vs hP e1 l1 l2 R1 => by
    split at hP
    · rename_i m m'
      obtain ⟨v, v', rfl⟩ : ∃ v v', vs = [v, v'] := len2 l2
      refine ⟨(show 2 ≤ sizeLine by decide), fun p hp => ⟨p, [v, v'], rfl, .inl (.inl upd_same), rfl, v, [v'], rfl, v', [], rfl, rfl, q _ _ _ _ hP e1 ?_⟩⟩
      have R2 := Rel.mv (Rel.laid R1 hp (.tup [v, v'])) l1 i
      have R3 := Rel.mv R2 (by rw [List.length_set, List.length_set]; exact l1) j
      simpa using R3
    · exact hP.elim⟩⟩
theorem as_parT3 {i j l : Nat} {x y z : Str} {a b c : Expr} {px py pz pt pos : Pos} {kt k2 pt2} (hN : X.N.Nodup) (ha : AMs X [a, b, c] u) (hc : X.calm = true := by rfl) (hi : X.N[i]? = some x := by rfl) (hj : X.N[j]? = some y := by rfl) (hl : X.N[l]? = some z := by rfl)
    (hx : Loc X.env.scope x := by first | exact Or.inl rfl | exact Or.inr rfl) (hfx : X.fn x = true ∨ X.env.scope.names.lookup x = some .local := by first | exact .inl rfl | exact .inr rfl) (hy : Loc X.env.scope y := by first | exact Or.inl rfl | exact Or.inr rfl) (hfy : X.fn y = true ∨ X.env.scope.names.lookup y = some .local := by first | exact .inl rfl | exact .inr rfl)
    (hz : Loc X.env.scope z := by first | exact Or.inl rfl | exact Or.inr rfl) (hfz : X.fn z = true ∨ X.env.scope.names.lookup z = some .local := by first | exact .inl rfl | exact .inr rfl)
    (hw : swappedStores [.Tuple [.Name x px, .Name y py, .Name z pz] kt pt] (.Tuple [a, b, c] k2 pt2) X.env = pure none := by rfl) (hs : swapsWithSole [.Tuple [.Name x px, .Name y py, .Name z pz] kt pt] (.Tuple [a, b, c] k2 pt2) pos.line X.env = pure false := by rfl) :
    AS X (.Assign [.Tuple [.Name x px, .Name y py, .Name z pz] kt pt] (.Tuple [a, b, c] k2 pt2) pos) (wPar3 i j l u) :=
  ⟨fun F => PSimp (ps_asg (pe_tup (ha.pa F)) (pg_tup hc (pgs_cons (pg_name hN hi hx hfx) (pgs_cons (pg_name hN hj hy hfy) (pgs_cons (pg_name hN hl hz hfz) pgs_nil)))) hs hw) fun D σ H ⟨S, ρ, k, R, h, q, _⟩ => ⟨S, ρ, _, R, h, fun ms ρ' S' H' vs hP e1 l1 l2 R1 => by
    split at hP
    · rename_i m m' m''
      obtain ⟨v, v', v'', rfl⟩ : ∃ v v' v'', vs = [v, v', v''] := len3 l2
      refine ⟨(show 3 ≤ sizeLine by decide), fun p hp => ⟨p, [v, v', v''], rfl, .inl (.inl upd_same), rfl, v, [v', v''], rfl, v', [v''], rfl, v'', [], rfl, rfl, q _ _ _ _ hP e1 ?_⟩⟩
      have R2 := Rel.mv (Rel.laid R1 hp (.tup [v, v', v''])) l1 i
      have R3 := Rel.mv R2 (by rw [List.length_set, List.length_set]; exact l1) j
      have R4 := Rel.mv R3 (by simp only [List.length_set]; exact l1) l
      simpa using R4
    · exact hP.elim⟩⟩
section
variable {k : Nat} {a b e : Expr} {pos pn : Pos} {x : Str} {wa wb : WE} (D : DKind)
theorem t_in (gd : Gd X k) (ha : AE X a wa) (hb : AE X b wb) (hm : behindInMarks .In b = false := by rfl) : AT X (.Compare a [.In] [b] pos) (wtB (wBin (inD false) wa wb)) := at_cmp (op_inD (by have := gu gd; omega)) op2_in ha hb hm
theorem t_ni (gd : Gd X k) (ha : AE X a wa) (hb : AE X b wb) (hm : behindInMarks .NotIn b = false := by rfl) : AT X (.Compare a [.NotIn] [b] pos) (wtB (wBin (inD true) wa wb)) := at_cmp (op_notInD (by have := gu gd; omega)) op2_notIn ha hb hm
theorem t_din (gd : Gd X k) (ha : AE X a wa) (hb : AE X b wb) (hm : behindInMarks .In b = false := by rfl) : AT X (.Compare a [.In] [b] pos) (wtB (wBin (dinD D false) wa wb)) := at_din D (by have := gu gd; omega) ha hb hm
theorem t_dnin (gd : Gd X k) (ha : AE X a wa) (hb : AE X b wb) (hm : behindInMarks .NotIn b = false := by rfl) : AT X (.Compare a [.NotIn] [b] pos) (wtB (wBin (dinD D true) wa wb)) := at_dnin D (by have := gu gd; omega) ha hb hm
theorem t_dinV (i : Nat) (gd : Gd X k) (ha : AE X a wa) (hN : X.N[i]? = some x := by rfl) (hv : Vis X.env.scope x := by first | exact Or.inl rfl | exact Or.inr (Or.inl rfl) | exact Or.inr (Or.inr rfl)) (hd : (x == ("__debug__" : Str)) = false := by decide) (hcd : (x == ("__classdict__" : Str)) = false := by decide) :
    AT X (.Compare a [.In] [.Name x pn] pos) (wtB (wInV D false i wa)) := at_dinV D (by have := gu gd; omega) hN hv ha hd hcd
theorem t_dninV (i : Nat) (gd : Gd X k) (ha : AE X a wa) (hN : X.N[i]? = some x := by rfl) (hv : Vis X.env.scope x := by first | exact Or.inl rfl | exact Or.inr (Or.inl rfl) | exact Or.inr (Or.inr rfl)) (hd : (x == ("__debug__" : Str)) = false := by decide) (hcd : (x == ("__classdict__" : Str)) = false := by decide) :
    AT X (.Compare a [.NotIn] [.Name x pn] pos) (wtB (wInV D true i wa)) := at_dninV D (by have := gu gd; omega) hN hv ha hd hcd
theorem t_eqV (i : Nat) (gd : Gd X k) (h : AE X e wa) (hN : X.N[i]? = some x := by rfl) (hv : Vis X.env.scope x := by first | exact Or.inl rfl | exact Or.inr (Or.inl rfl) | exact Or.inr (Or.inr rfl)) (hd : (x == ("__debug__" : Str)) = false := by decide) (hcd : (x == ("__classdict__" : Str)) = false := by decide) :
    AT X (.Compare (.Name x pn) [.Eq] [e] pos) (wtB (wEqV false i wa)) := at_eqV (by have := gu gd; omega) hN hv h (nomark _) hd hcd
theorem t_neV (i : Nat) (gd : Gd X k) (h : AE X e wa) (hN : X.N[i]? = some x := by rfl) (hv : Vis X.env.scope x := by first | exact Or.inl rfl | exact Or.inr (Or.inl rfl) | exact Or.inr (Or.inr rfl)) (hd : (x == ("__debug__" : Str)) = false := by decide) (hcd : (x == ("__classdict__" : Str)) = false := by decide) :
    AT X (.Compare (.Name x pn) [.NotEq] [e] pos) (wtB (wEqV true i wa)) := at_neV (by have := gu gd; omega) hN hv h (nomark _) hd hcd
theorem t_isNil {p2 : Pos} (gd : Gd X k) (ha : AE X a wa) : AT X (.Compare a [.Eq] [.Dict [] [] p2] pos) (wtB (wIsNil D wa)) := at_isNil D (by have := gu gd; omega) ha
end
def wIxO (i : Nat) (w : WE) : WE := fun P ρ => (∃ xs, ρ[i]? = some (.own (.lst xs))) ∧ wIxV i w P ρ
end
end AL

set_option Elab.async false
set_option linter.all false
set_option maxRecDepth 100000
set_option maxHeartbeats 4000000
namespace AL
open PySem PySem.Spec PyProof.Rows L2
/-! ### plain data: none, bools, ints of fewer than twelve digits, lists and tuples of such -/
mutual
def fineD : PyData → Bool
  | .none | .bool _ => true
  | .int i => decide (-100000000000 < i ∧ i < 100000000000)
  | .str _ | .dict _ => false
  | .list xs | .tuple xs => fineL xs
def fineL : List PyData → Bool
  | [] => true
  | x :: xs => fineD x && fineL xs
end
theorem log2_le {n k : Nat} (h : n < 2 ^ (k + 1)) : n.log2 ≤ k := by
  by_cases e : n = 0
  · subst e; simp
  · exact Nat.lt_succ_iff.mp ((Nat.log2_lt e).mpr h)
mutual
theorem fine_ok : ∀ {d : PyData}, fineD d = true → d.canLay0 = true ∧ d.showable = true ∧ d.leavesShort 13 = true
  | .none, _ => ⟨rfl, rfl, rfl⟩
  | .bool _, _ => ⟨rfl, rfl, rfl⟩
  | .int i, h => by
    have h' : -100000000000 < i ∧ i < 100000000000 := by simpa [fineD] using h
    refine ⟨rfl, ?_, ?_⟩
    · have : i.natAbs.log2 ≤ 39 := log2_le (by omega)
      simp only [PyData.showable, decide_eq_true_eq]
      omega
    · simp only [PyData.leavesShort, decide_eq_true_eq]
      exact PyData.shown_int_le2 (by omega) (by omega)
  | .str _, h => by simp [fineD] at h
  | .dict _, h => by simp [fineD] at h
  | .list xs, h => by
    obtain ⟨a, b, c⟩ := fineL_ok (xs := xs) (by simpa [fineD] using h)
    exact ⟨by simpa [PyData.canLay0] using a, by simpa [PyData.showable] using b, by simpa [PyData.leavesShort] using c⟩
  | .tuple xs, h => by
    obtain ⟨a, b, c⟩ := fineL_ok (xs := xs) (by simpa [fineD] using h)
    exact ⟨by simpa [PyData.canLay0] using a, by simpa [PyData.showable] using b, by simpa [PyData.leavesShort] using c⟩
theorem fineL_ok : ∀ {xs : List PyData}, fineL xs = true → PyData.canLayAll0 xs = true ∧ PyData.showableAll xs = true ∧ PyData.leavesShortAll 13 xs = true
  | [], _ => ⟨rfl, rfl, rfl⟩
  | x :: xs, h => by
    have h' : fineD x = true ∧ fineL xs = true := by simpa [fineL] using h
    obtain ⟨a, b, c⟩ := fine_ok h'.1
    obtain ⟨a', b', c'⟩ := fineL_ok h'.2
    exact ⟨by simp [PyData.canLayAll0, a, a'], by simp [PyData.showableAll, b, b'], by simp [PyData.leavesShortAll, c, c']⟩
end
theorem okD_fine {d : PyData} (h : fineD d = true) (hd : d.depth ≤ 64) : okD d = true := by
  show (d.canLay0 && decide (d.depth ≤ 64)) = true
  rw [(fine_ok h).1, decide_eq_true hd]; rfl
theorem shwD_fine {d : PyData} (h : fineD d = true) (hd : d.depth ≤ 64) (hw : d.weight ≤ 1000000) : shwD d = true := by
  have s := PyData.shown_le 13 (by decide) d (fine_ok h).2.2
  unfold shwD
  rw [okD_fine h hd, (fine_ok h).2.1, decide_eq_true (by rw [sizeLine_eq]; omega)]
  rfl
theorem fineL_iff {xs : List PyData} : fineL xs = true ↔ ∀ x ∈ xs, fineD x = true := by
  induction xs with
  | nil => simp [fineL]
  | cons x xs ih => simp [fineL, ih]
theorem depthAll_le {xs : List PyData} {n : Nat} (h : ∀ x ∈ xs, x.depth ≤ n) : PyData.depthAll xs ≤ n := by
  induction xs with
  | nil => exact Nat.zero_le _
  | cons x xs ih =>
    simp only [PyData.depthAll]
    exact Nat.max_le.mpr ⟨h x List.mem_cons_self, ih fun y hy => h y (List.mem_cons_of_mem _ hy)⟩
theorem weightAll_le {xs : List PyData} {n : Nat} (h : ∀ x ∈ xs, x.weight ≤ n) : PyData.weightAll xs ≤ xs.length * (n + 1) := by
  induction xs with
  | nil => exact Nat.zero_le _
  | cons x xs ih =>
    simp only [PyData.weightAll, List.length_cons, Nat.add_mul, Nat.one_mul]
    have := h x List.mem_cons_self
    have := ih fun y hy => h y (List.mem_cons_of_mem _ hy)
    omega
theorem weight_int {i : Int} (h : -100000000000 < i ∧ i < 100000000000) : (PyData.int i).weight ≤ 40 := by
  simp only [PyData.weight]
  split
  · omega
  · have : i.natAbs.log2 ≤ 39 := log2_le (by omega)
    omega
/-! ### words -/
/-- a word as a tuple -/
def wd (w : List Int) : PyData := .tuple (w.map .int)
/-- letters of a small size -/
def Sm (w : List Int) : Prop := ∀ x ∈ w, -100000000000 < x ∧ x < 100000000000
theorem fine_ints {w : List Int} (h : Sm w) : fineL (w.map PyData.int) = true := fineL_iff.mpr fun x hx => by
  obtain ⟨i, hi, rfl⟩ := List.mem_map.mp hx
  simpa [fineD] using h i hi
theorem fine_wd {w : List Int} (h : Sm w) : fineD (wd w) = true := by simpa [wd, fineD] using fine_ints h
theorem canLay_ints : ∀ (w : List Int), PyData.canLayAll0 (w.map PyData.int) = true
  | [] => rfl
  | x :: w => by simp [PyData.canLayAll0, PyData.canLay0, canLay_ints w]
theorem depth_ints {w : List Int} : PyData.depthAll (w.map PyData.int) = 0 := Nat.le_zero.mp (depthAll_le fun x hx => by
  obtain ⟨i, hi, rfl⟩ := List.mem_map.mp hx
  exact Nat.le_refl 0)
theorem depth_wd {w : List Int} : (wd w).depth = 1 := by simp [wd, PyData.depth, depth_ints]
theorem weight_wd {w : List Int} (h : Sm w) : (wd w).weight ≤ w.length * 41 := by
  have := weightAll_le (xs := w.map PyData.int) (n := 40) fun x hx => by
    obtain ⟨i, hi, rfl⟩ := List.mem_map.mp hx
    exact weight_int (h i hi)
  simpa [wd, PyData.weight] using this
theorem ok_wd (w : List Int) : okD (wd w) = true := by
  show ((wd w).canLay0 && decide ((wd w).depth ≤ 64)) = true
  rw [depth_wd]
  simp [wd, PyData.canLay0, canLay_ints]
theorem ok_int (i : Int) : okD (.int i) = true := rfl
theorem ok_bool (b : Bool) : okD (.bool b) = true := rfl
theorem shw_wd {w : List Int} (h : Sm w) (hl : w.length ≤ 20000) : shwD (wd w) = true := shwD_fine (fine_wd h) (by rw [depth_wd]; omega) (by have := weight_wd h; omega)
theorem eqv_ints : ∀ {a b : List Int}, PyData.eqvAll (a.map .int) (b.map .int) = decide (a = b)
  | [], [] => rfl
  | [], _ :: _ => rfl
  | _ :: _, [] => rfl
  | x :: a, y :: b => by
    simp only [List.map_cons, PyData.eqvAll, PyData.eqv, eqv_ints (a := a) (b := b), List.cons.injEq]
    by_cases h1 : x = y <;> by_cases h2 : a = b <;> simp [h1, h2]
theorem eqv_wd {a b : List Int} : PyData.eqv (wd a) (wd b) = decide (a = b) := by simp [wd, PyData.eqv, eqv_ints]
theorem eqv_int {a b : Int} : PyData.eqv (.int a) (.int b) = decide (a = b) := by
  simp [PyData.eqv, Bool.beq_eq_decide_eq]
mutual
theorem eqv_self : ∀ {d : PyData}, d.canLay0 = true → PyData.eqv d d = true
  | .none, _ => rfl
  | .bool b, _ => by simp [PyData.eqv]
  | .int i, _ => by simp [PyData.eqv]
  | .str x, _ => by simp [PyData.eqv]
  | .list xs, h => by simp only [PyData.eqv]; exact eqvAll_self (by simpa [PyData.canLay0] using h)
  | .tuple xs, h => by simp only [PyData.eqv]; exact eqvAll_self (by simpa [PyData.canLay0] using h)
  | .dict _, h => by simp [PyData.canLay0] at h
theorem eqvAll_self : ∀ {xs : List PyData}, PyData.canLayAll0 xs = true → PyData.eqvAll xs xs = true
  | [], _ => rfl
  | x :: xs, h => by
    have h' : x.canLay0 = true ∧ PyData.canLayAll0 xs = true := by simpa [PyData.canLayAll0] using h
    simp [PyData.eqvAll, eqv_self h'.1, eqvAll_self h'.2]
end
theorem wd_inj {a b : List Int} (h : wd a = wd b) : a = b := by
  have h1 : a.map PyData.int = b.map PyData.int := by simpa [wd] using h
  exact (List.map_inj_right (fun x y e => by cases e; rfl)).mp h1
end AL

set_option Elab.async false
set_option linter.all false
set_option maxRecDepth 100000
set_option maxHeartbeats 4000000
namespace AL
open PySem PySem.Spec PyProof.Rows L2
/-! ### loops, comprehensions by invariants -/
section
variable {g : WG} {wb : WS} {k : Ko} {t : WT}
theorem seq_inv {w u : WS} {ρ : AEnv} (Inv : AEnv → Prop) (h1 : ∀ K : AEnv → Prop, (∀ ρ', Inv ρ' → K ρ') → w { nx := K, rt := k.rt, bk := k.bk, ct := k.ct } ρ) (h2 : ∀ ρ', Inv ρ' → u k ρ') : wSeq w u k ρ := h1 _ h2
theorem forL_list (Inv : List PyData → AEnv → Prop) (step : ∀ d ds ρ, Inv (d :: ds) ρ → ∀ K : AEnv → Prop, (∀ ρ', Inv ds ρ' → K ρ') → g d (fun ρ1 => wb { nx := K, rt := k.rt, bk := k.nx, ct := K } ρ1) ρ) (fin : ∀ ρ, Inv [] ρ → k.nx ρ) :
    ∀ {ds : List PyData} {ρ : AEnv}, Inv ds ρ → wForL g wb [] k ds ρ
  | [], ρ, h => fin ρ h
  | d :: ds, ρ, h => step d ds ρ h _ fun _ h' => forL_list Inv step fin h'
theorem forL_at (ds : List PyData) (Inv : Nat → AEnv → Prop) (step : ∀ i d ρ, ds[i]? = some d → Inv i ρ → ∀ K : AEnv → Prop, (∀ ρ', Inv (i + 1) ρ' → K ρ') → g d (fun ρ1 => wb { nx := K, rt := k.rt, bk := k.nx, ct := K } ρ1) ρ) (fin : ∀ ρ, Inv ds.length ρ → k.nx ρ)
    {ρ : AEnv} (h : Inv 0 ρ) : wForL g wb [] k ds ρ := by
  have : ∀ (rest : List PyData) (i : Nat) (ρ : AEnv), ds.drop i = rest → i ≤ ds.length → Inv i ρ → wForL g wb [] k rest ρ := by
    intro rest
    induction rest with
    | nil =>
      intro i ρ e hi h
      have : i = ds.length := by
        have := congrArg List.length e
        rw [List.length_drop] at this
        simp at this
        omega
      subst this
      exact fin ρ h
    | cons d rest ih =>
      intro i ρ e hi h
      have hd : ds[i]? = some d := by
        have := congrArg (·[0]?) e
        simpa using this
      have hlt := (List.getElem?_eq_some_iff.mp hd).1
      exact step i d ρ hd h _ fun ρ' h' => ih (i + 1) ρ' (by rw [← List.drop_drop, e]; rfl) (by omega) h'
  exact this ds 0 ρ rfl (Nat.zero_le _) h
theorem forL_range (f : Nat → PyData) (n : Nat) (Inv : Nat → AEnv → Prop) (step : ∀ i ρ, i < n → Inv i ρ → ∀ K : AEnv → Prop, (∀ ρ', Inv (i + 1) ρ' → K ρ') → g (f i) (fun ρ1 => wb { nx := K, rt := k.rt, bk := k.nx, ct := K } ρ1) ρ) (fin : ∀ ρ, Inv n ρ → k.nx ρ)
    {ρ : AEnv} (h : Inv 0 ρ) : wForL g wb [] k ((List.range n).map f) ρ := by
  refine forL_at _ Inv (fun i d ρ hd h K hK => ?_) (fun ρ h => fin ρ (by simpa using h)) h
  rw [List.getElem?_map] at hd
  obtain ⟨j, hj, rfl⟩ := Option.map_eq_some_iff.mp hd
  obtain ⟨hi, e⟩ := List.getElem?_eq_some_iff.mp hj
  rw [List.getElem_range] at e
  subst e
  exact step i ρ (by simpa using hi) h K hK
/-- a while, by a measure -/
theorem while_inv (Inv : Nat → AEnv → Prop) (step : ∀ m ρ, Inv m ρ → ∀ K : AEnv → Prop, (∀ m' ρ', m' < m → Inv m' ρ' → K ρ') → t (fun b ρ1 => if b = true then wb { nx := K, rt := k.rt, bk := k.nx, ct := K } ρ1 else k.nx ρ1) ρ) {m : Nat} {ρ : AEnv} (h : Inv m ρ) : wWhile t wb [] k ρ := by
  refine ⟨m + 1, ?_⟩
  have : ∀ (n m : Nat) (ρ : AEnv), m < n → Inv m ρ → wWhileN t wb [] k n ρ := by
    intro n
    induction n with
    | zero => intro m ρ h; omega
    | succ n ih => intro m ρ hm h; exact step m ρ h _ fun m' ρ' h' hi => ih m' ρ' (by omega) hi
  exact this _ _ _ (Nat.lt_succ_self m) h
end
section
variable {sg : WG} {wt : WT} {we : WE} {vs : List Nat} {P : List PyData → AEnv → Prop}
theorem lcL_inv (Inv : List PyData → List PyData → AEnv → Prop) (step : ∀ d ds acc ρ, Inv (d :: ds) acc ρ → ∀ K : List PyData → AEnv → Prop, (∀ acc' ρ', Inv ds acc' ρ' → K acc' ρ') →
      sg d (fun ρ1 => wt (fun b ρ2 => if b = true then we (fun y ρ3 => acc.length < sizeLine ∧ K (acc ++ [y]) (wipeA ρ3 vs)) ρ2 else K acc (wipeA ρ2 vs)) ρ1) ρ) (fin : ∀ acc ρ, Inv [] acc ρ → P acc ρ) :
    ∀ {ds acc : List PyData} {ρ : AEnv}, Inv ds acc ρ → wLcL sg wt we vs P ds acc ρ
  | [], acc, ρ, h => fin acc ρ h
  | d :: ds, acc, ρ, h => step d ds acc ρ h (fun acc' ρ' => wLcL sg wt we vs P ds acc' ρ') fun _ _ h' => lcL_inv Inv step fin h'
/-- [y(d) for d in ds if b(d)], nothing else changed -/
theorem lcL_pure (b : PyData → Bool) (y : PyData → PyData) {ρ : AEnv} : ∀ {ds acc : List PyData}, (∀ d ∈ ds, ∀ (Ky : PyData → AEnv → Prop) (Kn : AEnv → Prop), (b d = true → ∀ ρ', wipeA ρ' vs = ρ → Ky (y d) ρ') → (b d = false → ∀ ρ', wipeA ρ' vs = ρ → Kn ρ') →
      sg d (fun ρ1 => wt (fun bb ρ2 => if bb = true then we Ky ρ2 else Kn ρ2) ρ1) ρ) → acc.length + ds.length ≤ sizeLine → P (acc ++ (ds.filter b).map y) ρ → wLcL sg wt we vs P ds acc ρ
  | [], acc, _, _, h => by simpa [wLcL] using h
  | d :: ds, acc, step, hl, h => by
    rw [List.length_cons] at hl
    refine step d List.mem_cons_self _ _ (fun hb ρ' e => ⟨by omega, ?_⟩) (fun hb ρ' e => ?_)
    · rw [e]
      refine lcL_pure b y (fun d' hd' => step d' (List.mem_cons_of_mem _ hd')) (by rw [List.length_append]; simp; omega) ?_
      rw [List.filter_cons_of_pos hb] at h
      simpa using h
    · rw [e]
      refine lcL_pure b y (fun d' hd' => step d' (List.mem_cons_of_mem _ hd')) (by omega) ?_
      rw [List.filter_cons_of_neg (by rw [hb]; simp)] at h
      exact h
theorem lcL_map (y : PyData → PyData) {ρ : AEnv} {ds : List PyData} (step : ∀ d ∈ ds, ∀ (Ky : PyData → AEnv → Prop) (Kn : AEnv → Prop), (∀ ρ', wipeA ρ' vs = ρ → Ky (y d) ρ') → sg d (fun ρ1 => wt (fun bb ρ2 => if bb = true then we Ky ρ2 else Kn ρ2) ρ1) ρ)
    (hl : ds.length ≤ sizeLine) (h : P (ds.map y) ρ) : wLcL sg wt we vs P ds [] ρ :=
  lcL_pure (fun _ => true) y (fun d hd Ky Kn h1 _ => step d hd Ky Kn (h1 rfl)) (by simpa using hl) (by rw [List.filter_eq_self.mpr (fun _ _ => rfl)]; simpa using h)
/-- each item by a relation -/
theorem lcL_each (p : PyData → PyData → Prop) {ρ : AEnv} : ∀ {ds acc : List PyData}, (∀ d ∈ ds, ∀ (Ky : PyData → AEnv → Prop) (Kn : AEnv → Prop), (∀ y ρ', p d y → wipeA ρ' vs = ρ → Ky y ρ') → sg d (fun ρ1 => wt (fun bb ρ2 => if bb = true then we Ky ρ2 else Kn ρ2) ρ1) ρ) →
      acc.length + ds.length ≤ sizeLine → (∀ ys, Paired p ds ys → P (acc ++ ys) ρ) → wLcL sg wt we vs P ds acc ρ
  | [], acc, _, _, h => by simpa [wLcL] using h [] .nil
  | d :: ds, acc, step, hl, h => by
    rw [List.length_cons] at hl
    refine step d List.mem_cons_self _ _ fun y ρ' hp e => ⟨by omega, ?_⟩
    rw [e]
    exact lcL_each p (fun d' hd' => step d' (List.mem_cons_of_mem _ hd')) (by rw [List.length_append]; simp; omega) fun ys hys => by
      have := h (y :: ys) (.cons hp hys)
      simpa using this
end
section
variable {sg : WG} {wt : WT} {vs : List Nat} {P : Nat → AEnv → Prop}
theorem lcsL_all {ρ : AEnv} : ∀ {ds : List PyData} {n : Nat}, (∀ d ∈ ds, ∀ (Ky : AEnv → Prop) (Kn : AEnv → Prop), (∀ ρ', wipeA ρ' vs = ρ → Ky ρ') → sg d (fun ρ1 => wt (fun bb ρ2 => if bb = true then Ky ρ2 else Kn ρ2) ρ1) ρ) → n + ds.length ≤ sizeLine → P (n + ds.length) ρ → wLcsL sg wt vs P ds n ρ
  | [], n, _, _, h => by simpa [wLcsL] using h
  | d :: ds, n, step, hl, h => by
    rw [List.length_cons] at hl h
    refine step d List.mem_cons_self _ _ fun ρ' e => ⟨by omega, ?_⟩
    rw [e]
    exact lcsL_all (fun d' hd' => step d' (List.mem_cons_of_mem _ hd')) (by omega) (by rw [show n + 1 + ds.length = n + (ds.length + 1) by omega]; exact h)
end
end AL

set_option Elab.async false
set_option linter.all false
set_option maxRecDepth 100000
set_option maxHeartbeats 4000000
namespace AL
open PySem PySem.Spec PyProof.Rows L2
/-! ### slices -/
section
variable {α : Type} {xs : List α}
theorem cut_nat (a b : Nat) : cutL xs (some (a : Int)) (some (b : Int)) = (xs.drop a).take (b - a) := by
  unfold cutL
  rw [HT.sIx_nat, HT.sIx_nat]
  apply List.ext_getElem?
  intro i
  simp only [List.getElem?_take, List.getElem?_drop]
  by_cases h : xs.length ≤ a + i
  · have e1 : xs[a + i]? = none := List.getElem?_eq_none h
    have e2 : xs[min a xs.length + i]? = none ∨ ¬ i < min b xs.length - min a xs.length := by
      by_cases h3 : a ≤ xs.length
      · exact .inl (by rw [Nat.min_eq_left h3]; exact e1)
      · exact .inl (List.getElem?_eq_none (by omega))
    rcases e2 with e2 | e2
    · simp [e1, e2]
    · simp [e1, e2]
  · rw [Nat.min_eq_left (show a ≤ xs.length by omega)]
    by_cases h2 : i < b - a
    · rw [if_pos h2, if_pos (by omega)]
    · rw [if_neg h2, if_neg (by omega)]
theorem cut_take (b : Nat) : cutL xs none (some (b : Int)) = xs.take b := by
  unfold cutL
  rw [HT.sIx_nat, HT.sIx_none, List.drop_zero, Nat.sub_zero]
  by_cases h2 : b ≤ xs.length
  · rw [Nat.min_eq_left h2]
  · rw [Nat.min_eq_right (by omega), List.take_length, List.take_of_length_le (by omega)]
theorem cut_drop (a : Nat) : cutL xs (some (a : Int)) none = xs.drop a := by
  unfold cutL
  rw [HT.sIx_nat, HT.sIx_none]
  by_cases h : a ≤ xs.length
  · rw [Nat.min_eq_left h, List.take_of_length_le (by rw [List.length_drop]; omega)]
  · rw [Nat.min_eq_right (by omega), List.drop_length, List.drop_of_length_le (by omega), List.take_nil]
theorem cut_map {β : Type} (f : α → β) (lo hi : Option Int) : cutL (xs.map f) lo hi = (cutL xs lo hi).map f := by
  unfold cutL
  rw [List.length_map, List.map_take, List.map_drop]
theorem at_nat {n : Nat} {x : α} (h : xs[n]? = some x) : atI xs (n : Int) = some x := by
  have := (List.getElem?_eq_some_iff.mp h).1
  unfold atI ixN
  rw [if_pos (by omega), if_pos (by omega)]
  simpa using h
theorem at_last {x : α} (h : xs.getLast? = some x) : atI xs (-1) = some x := by
  unfold atI ixN
  have hl : 0 < xs.length := by
    cases xs with
    | nil => simp at h
    | cons a l => simp
  rw [if_neg (by decide), if_pos (by omega)]
  rw [List.getLast?_eq_getElem?] at h
  show xs[((-1 : Int) + (xs.length : Int)).toNat]? = some x
  rw [show ((-1 : Int) + (xs.length : Int)).toNat = xs.length - 1 by omega]
  exact h
theorem ixN_nat {n m : Nat} (h : m < n) : ixN n (m : Int) = some m := by
  unfold ixN
  rw [if_pos (by omega), if_pos (by omega)]
  rfl
end
/-! ### sorting -/
section
theorem perm_sorted {α : Type} {r : α → α → Prop} (anti : ∀ a b, r a b → r b a → a = b) (refl : ∀ a, r a a) : ∀ {l m : List α}, l.Perm m → l.Pairwise r → m.Pairwise r → l = m
  | [], m, h, _, _ => (List.nil_perm.mp h).symm
  | a :: l, [], h, _, _ => by simpa using h.length_eq
  | a :: l, b :: m, h, hl, hm => by
    have hl' := List.pairwise_cons.mp hl
    have hm' := List.pairwise_cons.mp hm
    have e : a = b := by
      have h1 : a ∈ b :: m := h.subset List.mem_cons_self
      have h2 : b ∈ a :: l := h.symm.subset List.mem_cons_self
      rcases List.mem_cons.mp h1 with e | h1
      · exact e
      · rcases List.mem_cons.mp h2 with e | h2
        · exact e.symm
        · exact anti a b (hl'.1 b h2) (hm'.1 a h1)
    subst e
    rw [perm_sorted anti refl ((List.perm_cons a).mp h) hl'.2 hm'.2]
abbrev leI : Int → Int → Bool := fun a b => decide (a ≤ b)
def srt (ns : List Int) : List Int := ns.mergeSort leI
theorem srt_perm (ns : List Int) : (srt ns).Perm ns := List.mergeSort_perm ns leI
theorem srt_pw (ns : List Int) : (srt ns).Pairwise (· ≤ ·) := by
  have h := List.pairwise_mergeSort (le := leI) (fun a b c h1 h2 => by simp at *; omega) (fun a b => by simp; omega) ns
  exact h.imp (fun h => by simpa using h)
theorem srt_eq {ns ms : List Int} (h : ms.Perm ns) (hs : ms.Pairwise (· ≤ ·)) : srt ns = ms :=
  perm_sorted (r := (· ≤ ·)) (fun a b h1 h2 => by omega) (fun a => by omega) ((srt_perm ns).trans h.symm) (srt_pw ns) hs
theorem sorted_ints (ns : List Int) : sortedBy (ns.map .int) = (srt ns).map .int := by
  unfold srt
  symm
  refine List.map_mergeSort fun a _ b _ => ?_
  have := congrFun (congrFun (PySem.W.dataLe_int (β := Int) (fun b => b)) a) b
  exact this.symm
theorem srt_ints (ns : List Int) : srtOk (ns.map .int) := by
  refine ⟨fun d hd d' hd' => ?_, .inr fun d hd => ?_, fun d hd => ?_⟩
  · obtain ⟨i, _, rfl⟩ := List.mem_map.mp hd
    obtain ⟨j, _, rfl⟩ := List.mem_map.mp hd'
    rfl
  · obtain ⟨i, _, rfl⟩ := List.mem_map.mp hd
    exact ⟨(fun h => nomatch h), (fun xs h => nomatch h)⟩
  · obtain ⟨i, _, rfl⟩ := List.mem_map.mp hd
    exact Nat.zero_le _
abbrev leW : List Int → List Int → Bool := fun a b => decide (a ≤ b)
theorem alike_ints : ∀ a b : List Int, PySem.W.alikeAll (a.map .int) (b.map .int) = true
  | [], _ => rfl
  | _ :: _, [] => rfl
  | _ :: a, _ :: b => by simp [PySem.W.alikeAll, PySem.W.alike, alike_ints a b]
theorem srt_wds {ws : List (List Int)} (h : ∀ w ∈ ws, w ≠ []) : srtOk (ws.map wd) := by
  refine ⟨fun d hd d' hd' => ?_, .inl fun d hd => ?_, fun d hd => ?_⟩
  · obtain ⟨i, _, rfl⟩ := List.mem_map.mp hd
    obtain ⟨j, _, rfl⟩ := List.mem_map.mp hd'
    simp [wd, PySem.W.alike, alike_ints]
  · obtain ⟨i, hi, rfl⟩ := List.mem_map.mp hd
    cases i with
    | nil => exact absurd rfl (h _ hi)
    | cons x r => exact ⟨_, _, rfl⟩
  · obtain ⟨i, _, rfl⟩ := List.mem_map.mp hd
    rw [depth_wd]; decide
def srtW (ws : List (List Int)) : List (List Int) := ws.mergeSort leW
theorem dataLe_wd (a b : List Int) : PySem.W.dataLe false (fun d => d) (wd a) (wd b) = leW a b := by
  have := congrFun (congrFun (PySem.W.dataLe_rows (β := List Int) (fun b => b)) a) b
  exact this
theorem sorted_wds (ws : List (List Int)) : sortedBy (ws.map wd) = (srtW ws).map wd := by
  unfold srtW
  symm
  exact List.map_mergeSort fun a _ b _ => (dataLe_wd a b).symm
theorem srtW_perm (ws : List (List Int)) : (srtW ws).Perm ws := List.mergeSort_perm ws leW
end
/-! ### keys of words -/
/-- a word as a key -/
def kw (w : List Int) : TKey := w.map .inl
theorem key_kw (w : List Int) : dkT.key (kw w) = wd w := by
  show PyData.tuple ((w.map Sum.inl).map keyD) = .tuple (w.map .int)
  rw [List.map_map]; rfl
theorem kw_inj {a b : List Int} (h : kw a = kw b) : a = b := (List.map_inj_right (fun x y e => by cases e; rfl)).mp h
end AL

set_option Elab.async false
set_option linter.all false
set_option maxRecDepth 100000
set_option maxHeartbeats 4000000
namespace LW
open PySem PySem.Spec PyProof.Rows L2 AL
/-! ### squares: the plain things -/
/-- how many first letters two words have in common -/
def lcp : List Int → List Int → Nat
  | a :: as, b :: bs => if a = b then lcp as bs + 1 else 0
  | _, _ => 0
/-- how many letters from p on are those n places farther on, one behind the other -/
def far (w : List Int) (n p : Nat) : Nat := lcp (w.drop p) (w.drop (p + n))
theorem far_end {w : List Int} {n p : Nat} (h : w.length ≤ p + n) : far w n p = 0 := by
  unfold far
  rw [List.drop_of_length_le h]
  cases w.drop p <;> rfl
theorem far_step {w : List Int} {n p : Nat} {a b : Int} (ha : w[p]? = some a) (hb : w[p + n]? = some b) : far w n p = if a = b then far w n (p + 1) + 1 else 0 := by
  unfold far
  obtain ⟨h1, e1⟩ := List.getElem?_eq_some_iff.mp ha
  obtain ⟨h2, e2⟩ := List.getElem?_eq_some_iff.mp hb
  rw [List.drop_eq_getElem_cons h1, List.drop_eq_getElem_cons h2, e1, e2, show p + n + 1 = p + 1 + n by omega]
  rfl
theorem lcp_le {a b : List Int} : lcp a b ≤ a.length ∧ lcp a b ≤ b.length := by
  induction a generalizing b with
  | nil => exact ⟨Nat.zero_le _, Nat.zero_le _⟩
  | cons x a ih =>
    cases b with
    | nil => exact ⟨Nat.zero_le _, Nat.zero_le _⟩
    | cons y b =>
      have := ih (b := b)
      unfold lcp
      split
      · simp; omega
      · simp
theorem lcp_take {a b : List Int} {n : Nat} (ha : n ≤ a.length) (hb : n ≤ b.length) : n ≤ lcp a b ↔ a.take n = b.take n := by
  induction n generalizing a b with
  | zero => simp
  | succ n ih =>
    cases a with
    | nil => simp at ha
    | cons x a =>
      cases b with
      | nil => simp at hb
      | cons y b =>
        have := ih (a := a) (b := b) (by simpa using ha) (by simpa using hb)
        unfold lcp
        by_cases e : x = y
        · simp [e, this]
        · simp [e]
def looks (w : List Int) (n : Nat) : List Int := (List.range w.length).map fun p => (far w n p : Int)
end LW

set_option Elab.async false
set_option linter.all false
set_option maxRecDepth 100000
set_option maxHeartbeats 4000000
namespace LW
open PySem PySem.Spec PyProof.Rows L2 AL
/-! ### which squares stand where -/
/-- a square stands at p, its half of n letters -/
def sq (w : List Int) (p n : Nat) : Bool := decide (p + 2 * n ≤ w.length ∧ n ≤ far w n p)
def sub (w : List Int) (p l : Nat) : List Int := (w.drop p).take l
theorem sub_len {w : List Int} {p l : Nat} (h : p + l ≤ w.length) : (sub w p l).length = l := by
  unfold sub
  rw [List.length_take, List.length_drop]
  omega
theorem sq_iff {w : List Int} {p n : Nat} (h : p + 2 * n ≤ w.length) : sq w p n = decide ((sub w p (2 * n)).take n = (sub w p (2 * n)).drop n) := by
  unfold sq far sub
  rw [decide_eq_decide]
  have e1 : ((w.drop p).take (2 * n)).take n = (w.drop p).take n := by rw [List.take_take]; congr 1; omega
  have e2 : ((w.drop p).take (2 * n)).drop n = (w.drop (p + n)).take n := by rw [List.drop_take, List.drop_drop]; congr 1; omega
  rw [e1, e2, ← lcp_take (by rw [List.length_drop]; omega) (by rw [List.length_drop]; omega)]
  exact ⟨fun h => h.2, fun h' => ⟨h, h'⟩⟩
/-- the lengths of halves of squares at p, ascending -/
def sqN (w : List Int) (p : Nat) : List Nat := ((List.range ((w.length - p) / 2)).map (· + 1)).filter (sq w p)
theorem mem_sqN {w : List Int} {p n : Nat} (h : p ≤ w.length) : n ∈ sqN w p ↔ 1 ≤ n ∧ sq w p n = true := by
  unfold sqN
  rw [List.mem_filter, List.mem_map]
  constructor
  · rintro ⟨⟨i, hi, rfl⟩, h⟩
    exact ⟨by omega, h⟩
  · rintro ⟨h1, h2⟩
    have := (of_decide_eq_true h2).1
    exact ⟨⟨n - 1, List.mem_range.mpr (by omega), by omega⟩, h2⟩
/-! ### lists of pairs by their firsts -/
section
variable {κ β : Type} [DecidableEq κ]
def lookA : List (κ × β) → κ → Option β
  | [], _ => none
  | a :: d, k => if a.1 = k then some a.2 else lookA d k
def putA : List (κ × β) → κ → β → List (κ × β)
  | [], k, v => [(k, v)]
  | a :: d, k, v => if a.1 = k then (a.1, v) :: d else a :: putA d k v
theorem look_put {d : List (κ × β)} {k k' : κ} {v : β} : lookA (putA d k v) k' = if k' = k then some v else lookA d k' := by
  induction d with
  | nil =>
    by_cases e : k = k'
    · simp [putA, lookA, e]
    · simp [putA, lookA, e, Ne.symm e]
  | cons a d ih =>
    unfold putA
    by_cases e : a.1 = k
    · rw [if_pos e]
      by_cases e2 : k' = k
      · simp [lookA, e, e2]
      · have e3 : ¬ a.1 = k' := fun z => e2 (z.symm.trans e)
        simp [lookA, e2, e3]
    · rw [if_neg e]
      by_cases e3 : a.1 = k'
      · have e2 : ¬ k' = k := fun z => e (e3.trans z)
        simp [lookA, e3, e2]
      · simp [lookA, e3, ih]
theorem keys_put {d : List (κ × β)} {k : κ} {v : β} : (putA d k v).map (·.1) = if k ∈ d.map (·.1) then d.map (·.1) else d.map (·.1) ++ [k] := by
  induction d with
  | nil => simp [putA]
  | cons a d ih =>
    unfold putA
    by_cases e : a.1 = k
    · simp [e]
    · have e2 : ¬ k = a.1 := fun z => e z.symm
      simp only [e, if_false, List.map_cons, ih, List.mem_cons, e2, false_or]
      split <;> rfl
theorem nodup_put {d : List (κ × β)} {k : κ} {v : β} (h : (d.map (·.1)).Nodup) : ((putA d k v).map (·.1)).Nodup := by
  rw [keys_put]
  split
  · exact h
  · rename_i hk
    rw [List.nodup_append]
    exact ⟨h, by simp, fun a ha b hb z => hk (by rw [List.mem_singleton.mp hb] at z; rw [← z]; exact ha)⟩
theorem look_none {d : List (κ × β)} {k : κ} : lookA d k = none ↔ k ∉ d.map (·.1) := by
  induction d with
  | nil => simp [lookA]
  | cons a d ih =>
    by_cases e : a.1 = k
    · simp [lookA, e]
    · have e2 : ¬ k = a.1 := fun z => e z.symm
      simp only [lookA, e, if_false, ih, List.map_cons, List.mem_cons, e2, false_or]
theorem look_mem {d : List (κ × β)} {k : κ} {v : β} (h : lookA d k = some v) : (k, v) ∈ d := by
  induction d with
  | nil => simp [lookA] at h
  | cons a d ih =>
    by_cases e : a.1 = k
    · simp only [lookA, e, if_true, Option.some.injEq] at h
      subst e h
      exact List.mem_cons_self
    · simp only [lookA, e, if_false] at h
      exact List.mem_cons_of_mem _ (ih h)
theorem mem_look {d : List (κ × β)} {k : κ} {v : β} (nd : (d.map (·.1)).Nodup) (h : (k, v) ∈ d) : lookA d k = some v := by
  induction d with
  | nil => cases h
  | cons a d ih =>
    rw [List.map_cons] at nd
    obtain ⟨na, nd⟩ := List.nodup_cons.mp nd
    rcases List.mem_cons.mp h with e | h
    · subst e; simp [lookA]
    · have : ¬ a.1 = k := fun z => na (by rw [z]; exact List.mem_map.mpr ⟨_, h, rfl⟩)
      simp only [lookA, this, if_false]
      exact ih nd h
/-- the seconds by the firsts, the firsts as they come -/
def grpG (d : List (κ × List β)) (l : List (κ × β)) : List (κ × List β) := l.foldl (fun d x => putA d x.1 ((lookA d x.1).getD [] ++ [x.2])) d
def grp (l : List (κ × β)) : List (κ × List β) := grpG [] l
theorem look_grpG {k : κ} : ∀ {l : List (κ × β)} {d : List (κ × List β)}, lookA (grpG d l) k = if (l.filter fun x => decide (x.1 = k)) = [] then lookA d k else some ((lookA d k).getD [] ++ (l.filter fun x => decide (x.1 = k)).map (·.2))
  | [], d => by simp [grpG]
  | x :: l, d => by
    show lookA (grpG (putA d x.1 ((lookA d x.1).getD [] ++ [x.2])) l) k = _
    rw [look_grpG, look_put]
    by_cases e : x.1 = k
    · subst e
      simp only [if_true, List.filter_cons, decide_true, Option.getD_some]
      split
      · rename_i h; simp [h]
      · simp
    · have e2 : ¬ k = x.1 := fun z => e z.symm
      rw [if_neg e2]
      have e3 : (x :: l).filter (fun x => decide (x.1 = k)) = l.filter fun x => decide (x.1 = k) := List.filter_cons_of_neg (by simpa using e)
      rw [e3]
theorem look_grp {k : κ} {l : List (κ × β)} : lookA (grp l) k = if (l.filter fun x => decide (x.1 = k)) = [] then none else some ((l.filter fun x => decide (x.1 = k)).map (·.2)) := by
  unfold grp
  rw [look_grpG]
  simp [lookA]
theorem nodup_grpG : ∀ {l : List (κ × β)} {d : List (κ × List β)}, (d.map (·.1)).Nodup → ((grpG d l).map (·.1)).Nodup
  | [], _, h => h
  | x :: l, d, h => nodup_grpG (l := l) (d := putA d x.1 ((lookA d x.1).getD [] ++ [x.2])) (nodup_put h)
theorem nodup_grp {l : List (κ × β)} : ((grp l).map (·.1)).Nodup := nodup_grpG List.nodup_nil
theorem mem_grp {k : κ} {l : List (κ × β)} : k ∈ (grp l).map (·.1) ↔ ∃ p, (k, p) ∈ l := by
  have h : k ∈ (grp l).map (·.1) ↔ ¬ lookA (grp l) k = none := by rw [look_none]; simp
  rw [h, look_grp]
  constructor
  · intro hn
    by_cases e : (l.filter fun x => decide (x.1 = k)) = []
    · rw [if_pos e] at hn; exact absurd rfl hn
    · obtain ⟨x, hx⟩ := List.exists_mem_of_ne_nil _ e
      obtain ⟨hx, hk⟩ := List.mem_filter.mp hx
      have := of_decide_eq_true hk
      exact ⟨x.2, by rw [← this]; exact hx⟩
  · rintro ⟨p, hp⟩
    rw [if_neg (List.ne_nil_of_mem (List.mem_filter.mpr ⟨hp, by simp⟩))]
    simp
theorem len_put {d : List (κ × β)} {k : κ} {v : β} : (putA d k v).length ≤ d.length + 1 := by
  induction d with
  | nil => simp [putA]
  | cons a d ih =>
    unfold putA
    split
    · simp
    · simp; omega
theorem len_grpG : ∀ {l : List (κ × β)} {d : List (κ × List β)}, (grpG d l).length ≤ d.length + l.length
  | [], _ => Nat.le_refl _
  | x :: l, d => by
    have h1 := len_grpG (l := l) (d := putA d x.1 ((lookA d x.1).getD [] ++ [x.2]))
    have h2 := len_put (d := d) (k := x.1) (v := (lookA d x.1).getD [] ++ [x.2])
    simp only [List.length_cons]
    exact Nat.le_trans h1 (by omega)
end
/-! ### dicts from words to lists of places -/
def ps (l : List Nat) : PyData := .list (l.map fun (p : Nat) => PyData.int p)
def encS (d : List (List Int × List Nat)) : List (TKey × PyData) := d.map fun x => (kw x.1, ps x.2)
theorem look_enc {d : List (List Int × List Nat)} {k : List Int} : lookP (encS d) (kw k) = (lookA d k).map ps := by
  induction d with
  | nil => rfl
  | cons a d ih =>
    unfold encS lookP at ih ⊢
    rw [List.map_cons, List.find?_cons]
    by_cases e : a.1 = k
    · simp [lookA, e]
    · have : ¬ kw a.1 = kw k := fun z => e (kw_inj z)
      simp only [this, decide_false, lookA, e, if_false]
      exact ih
theorem put_enc {d : List (List Int × List Nat)} {k : List Int} {v : List Nat} (nd : (d.map (·.1)).Nodup) : putP (encS d) (kw k) (ps v) = encS (putA d k v) := by
  induction d with
  | nil => rfl
  | cons a d ih =>
    rw [List.map_cons] at nd
    obtain ⟨na, nd⟩ := List.nodup_cons.mp nd
    have ih := ih nd
    by_cases e : a.1 = k
    · have hno : ∀ x ∈ encS d, ¬ x.1 = kw k := fun x hx z => by
        obtain ⟨y, hy, rfl⟩ := List.mem_map.mp hx
        exact na (by rw [e, ← kw_inj z]; exact List.mem_map.mpr ⟨y, hy, rfl⟩)
      unfold putA
      rw [if_pos e]
      unfold putP
      rw [if_pos (by simp [encS, e])]
      show ((kw a.1, ps a.2) :: encS d).map _ = (kw a.1, ps v) :: encS d
      rw [List.map_cons, if_pos (by rw [e])]
      congr 1
      exact (List.map_congr_left fun x hx => if_neg (hno x hx)).trans (List.map_id' _)
    · have hk : ¬ kw a.1 = kw k := fun z => e (kw_inj z)
      unfold putA
      rw [if_neg e]
      show putP ((kw a.1, ps a.2) :: encS d) (kw k) (ps v) = (kw a.1, ps a.2) :: encS (putA d k v)
      rw [← ih]
      unfold putP
      rw [List.any_cons, List.map_cons]
      simp only [hk, decide_false, Bool.false_or, if_false]
      split <;> rfl
theorem len_enc {d : List (List Int × List Nat)} : (encS d).length = d.length := by simp [encS]
theorem keys_enc {d : List (List Int × List Nat)} : ((encS d).map fun p => dkT.key p.1) = (d.map (·.1)).map wd := by
  unfold encS
  rw [List.map_map, List.map_map]
  exact List.map_congr_left fun x _ => key_kw x.1
end LW

set_option Elab.async false
set_option linter.all false
set_option maxRecDepth 100000
set_option maxHeartbeats 4000000
namespace LW
open PySem PySem.Spec PyProof.Rows L2 AL
theorem small_len {n : Nat} (h : n ≤ 16777216) : n ≤ sizeLine := by rw [sizeLine_eq]; exact h
theorem small_lt {n : Nat} (h : n < 16777216) : n < sizeLine := by rw [sizeLine_eq]; exact h
theorem s62 {i : Int} (h1 : -100000000000 ≤ i) (h2 : i ≤ 100000000000) : small62 i := ⟨by omega, by omega⟩
theorem at_int {w : List Int} {p : Nat} {a : Int} (h : w[p]? = some a) : atI (w.map PyData.int) (p : Int) = some (.int a) := at_nat (by rw [List.getElem?_map, h]; rfl)
theorem rangeC_down {lo : Int} {m n : Nat} (h : lo = (n : Int) - 1) (hm : m = n) : rangeC lo (-1) m = (List.range n).map fun i => PyData.int ((n - 1 - i : Nat) : Int) := by
  subst h hm
  unfold rangeC
  refine List.map_congr_left fun i hi => ?_
  have := List.mem_range.mp hi
  congr 1
  omega
theorem rangeL_0 {m n : Nat} (h : m = n) : rangeL 0 m = (List.range n).map fun (i : Nat) => PyData.int (i : Int) := by
  subst h
  unfold rangeL
  refine List.map_congr_left fun i hi => ?_
  congr 1
  omega
theorem rangeL_1 {m n : Nat} (h : m = n) : rangeL 1 m = ((List.range n).map (· + 1)).map fun (i : Nat) => PyData.int (i : Int) := by
  subst h
  unfold rangeL
  rw [List.map_map]
  refine List.map_congr_left fun i hi => ?_
  show PyData.int (1 + (i : Int)) = PyData.int ((i + 1 : Nat) : Int)
  congr 1
  omega
/-- numbers as a row of data -/
def nd (l : List Nat) : List PyData := l.map fun (i : Nat) => PyData.int (i : Int)
theorem nd_len (l : List Nat) : (nd l).length = l.length := by simp [nd]
/-- the number a datum is -/
def numD : PyData → Nat
  | .int i => i.toNat
  | _ => 0
theorem filter_nd (b : Nat → Bool) (l : List Nat) : (nd l).filter (fun d => b (numD d)) = nd (l.filter b) := by
  induction l with
  | nil => rfl
  | cons x l ih =>
    show (PyData.int x :: nd l).filter _ = _
    rw [List.filter_cons, List.filter_cons]
    have e : numD (PyData.int (x : Int)) = x := rfl
    rw [e]
    split
    · rw [ih]; rfl
    · exact ih
/-! ### occurrences of squares -/
def occAt (w : List Int) (p : Nat) : List (List Int × Nat) := (sqN w p).map fun n => (sub w p (2 * n), p)
def occTo (w : List Int) (m : Nat) : List (List Int × Nat) := (List.range m).flatMap (occAt w)
def standsD (w : List Int) : List (List Int × List Nat) := grp (occTo w w.length)
theorem occTo_succ {w : List Int} {m : Nat} : occTo w (m + 1) = occTo w m ++ occAt w m := by
  unfold occTo
  rw [List.range_succ, List.flatMap_append]
  simp
theorem sqN_len {w : List Int} {p : Nat} : (sqN w p).length ≤ w.length := by
  unfold sqN
  refine Nat.le_trans (List.length_filter_le _ _) ?_
  rw [List.length_map, List.length_range]
  omega
theorem occTo_len {w : List Int} : ∀ {m : Nat}, (occTo w m).length ≤ m * w.length
  | 0 => by simp [occTo]
  | m + 1 => by
    rw [occTo_succ, List.length_append, Nat.add_mul, Nat.one_mul]
    have := occTo_len (w := w) (m := m)
    have : (occAt w m).length ≤ w.length := by unfold occAt; rw [List.length_map]; exact sqN_len
    omega
theorem grpG_app {κ β : Type} [DecidableEq κ] {d : List (κ × List β)} {l m : List (κ × β)} : grpG d (l ++ m) = grpG (grpG d l) m := by
  unfold grpG; rw [List.foldl_append]
theorem grp_snoc {κ β : Type} [DecidableEq κ] {l : List (κ × β)} {k : κ} {p : β} : grp (l ++ [(k, p)]) = putA (grp l) k ((lookA (grp l) k).getD [] ++ [p]) := by
  unfold grp
  rw [grpG_app]
  rfl
theorem cut_sub (w : List Int) (i l : Nat) : cutL (w.map PyData.int) (some (i : Int)) (some ((i : Int) + (l : Int))) = (sub w i l).map .int := by
  rw [cut_map]
  congr 1
  have := cut_nat (xs := w) i (i + l)
  rw [show ((i + l : Nat) : Int) = (i : Int) + (l : Int) by omega, Nat.add_sub_cancel_left] at this
  exact this
theorem len_grp {κ β : Type} [DecidableEq κ] {l : List (κ × β)} : (grp l).length ≤ l.length := by
  have := len_grpG (l := l) (d := [])
  simpa [grp] using this
theorem val_grp {κ β : Type} [DecidableEq κ] {l : List (κ × β)} {k : κ} : ((lookA (grp l) k).getD []).length ≤ l.length := by
  rw [look_grp]
  split
  · exact Nat.zero_le _
  · simp only [Option.getD_some, List.length_map]
    exact List.length_filter_le _ _
theorem mem_occTo {w : List Int} {m p : Nat} {s : List Int} : (s, p) ∈ occTo w m ↔ p < m ∧ ∃ n ∈ sqN w p, s = sub w p (2 * n) := by
  unfold occTo occAt
  rw [List.mem_flatMap]
  constructor
  · rintro ⟨i, hi, h⟩
    obtain ⟨n, hn, e⟩ := List.mem_map.mp h
    cases e
    exact ⟨List.mem_range.mp hi, n, hn, rfl⟩
  · rintro ⟨h, n, hn, e⟩
    exact ⟨p, List.mem_range.mpr h, List.mem_map.mpr ⟨n, hn, by rw [e]⟩⟩
theorem key_stands {w : List Int} {s : List Int} (h : s ∈ (standsD w).map (·.1)) : ∃ p n, p + 2 * n ≤ w.length ∧ 1 ≤ n ∧ sq w p n = true ∧ s = sub w p (2 * n) := by
  obtain ⟨p, hp⟩ := mem_grp.mp h
  obtain ⟨h1, n, hn, e⟩ := mem_occTo.mp hp
  obtain ⟨h2, h3⟩ := (mem_sqN (by omega)).mp hn
  exact ⟨p, n, (of_decide_eq_true h3).1, h2, h3, e⟩
theorem key_ne {w : List Int} {s : List Int} (h : s ∈ (standsD w).map (·.1)) : s ≠ [] := by
  obtain ⟨p, n, h1, h2, _, rfl⟩ := key_stands h
  intro e
  have := sub_len h1
  rw [e] at this
  simp at this
  omega
theorem ok_wds (ws : List (List Int)) : okD (.tuple (ws.map wd)) = true := by
  have h1 : PyData.canLayAll0 (ws.map wd) = true := by
    induction ws with
    | nil => rfl
    | cons w ws ih =>
      have : (wd w).canLay0 = true := by simp [wd, PyData.canLay0, canLay_ints]
      simp [PyData.canLayAll0, this, ih]
  have h2 : PyData.depthAll (ws.map wd) ≤ 1 := depthAll_le fun x hx => by
    obtain ⟨y, _, rfl⟩ := List.mem_map.mp hx
    rw [depth_wd]
    exact Nat.le_refl 1
  show ((PyData.tuple (ws.map wd)).canLay0 && decide ((PyData.tuple (ws.map wd)).depth ≤ 64)) = true
  simp only [PyData.canLay0, PyData.depth, h1, Bool.true_and, decide_eq_true_eq]
  exact decide_eq_true (Nat.le_trans (Nat.add_le_add_right h2 1) (show 1 + 1 ≤ 64 by decide))
theorem ok_list_ints (l : List Int) : okD (.list (l.map .int)) = true := by
  show ((PyData.list (l.map .int)).canLay0 && decide ((PyData.list (l.map .int)).depth ≤ 64)) = true
  simp [PyData.canLay0, PyData.depth, canLay_ints, depth_ints]
/-- for each place the halves of the squares with their last stand there, as they come -/
def lastF (d : List (List Int × List Nat)) (n : Nat) : List (List Int) := d.foldl (fun ls x => ls.modify (x.2.getLast?.getD 0) (· ++ [((x.1.length / 2 : Nat) : Int)])) (List.replicate n [])
def lastsD (w : List Int) : List (List Int) := lastF (standsD w) w.length
theorem lastF_snoc {d : List (List Int × List Nat)} {x : List Int × List Nat} {n : Nat} : lastF (d ++ [x]) n = (lastF d n).modify (x.2.getLast?.getD 0) (· ++ [((x.1.length / 2 : Nat) : Int)]) := by
  unfold lastF
  rw [List.foldl_append]
  rfl
theorem lastF_len {d : List (List Int × List Nat)} {n : Nat} : (lastF d n).length = n ∧ ∀ l ∈ lastF d n, l.length ≤ d.length := by
  suffices h : ∀ (d' d : List (List Int × List Nat)), d' = d.reverse → (lastF d n).length = n ∧ ∀ l ∈ lastF d n, l.length ≤ d.length from h _ d rfl
  intro d'
  induction d' with
  | nil =>
    intro d h
    have : d = [] := by simpa using h.symm
    subst this
    refine ⟨by simp [lastF], fun l hl => ?_⟩
    have := List.eq_of_mem_replicate hl
    simp [this]
  | cons x d' ih =>
    intro d h
    have e : d = d'.reverse ++ [x] := by
      have := congrArg List.reverse h
      simpa using this.symm
    subst e
    obtain ⟨h1, h2⟩ := ih d'.reverse (by simp)
    rw [lastF_snoc]
    refine ⟨by rw [List.length_modify]; exact h1, fun l hl => ?_⟩
    rw [List.length_append]
    obtain ⟨i, hi⟩ := List.getElem?_of_mem hl
    rw [List.getElem?_modify] at hi
    obtain ⟨l0, hl0, e⟩ := Option.map_eq_some_iff.mp hi
    have hb := h2 l0 (List.mem_of_getElem? hl0)
    rw [List.length_reverse] at hb ⊢
    split at e
    · subst e
      rw [List.length_append]
      exact Nat.add_le_add_right hb 1
    · subst e
      exact Nat.le_succ_of_le hb
theorem stands_place {w : List Int} {x : List Int × List Nat} (h : x ∈ standsD w) : x.2 ≠ [] ∧ ∀ p ∈ x.2, (x.1, p) ∈ occTo w w.length := by
  have hl := mem_look nodup_grp (k := x.1) (v := x.2) (d := standsD w) h
  unfold standsD at hl
  rw [look_grp] at hl
  split at hl
  · cases hl
  · rename_i hne
    have hx := Option.some.inj hl
    refine ⟨by rw [← hx]; simpa using hne, fun p hp => ?_⟩
    rw [← hx] at hp
    obtain ⟨y, hy, e⟩ := List.mem_map.mp hp
    obtain ⟨hy, hk⟩ := List.mem_filter.mp hy
    have := of_decide_eq_true hk
    rw [← this, ← e]
    exact hy
theorem get_enc {d : List (List Int × List Nat)} {k : List Int} : (lookP (encS d) (kw k)).getD (.list []) = ps ((lookA d k).getD []) := by
  rw [look_enc]
  cases lookA d k <;> rfl
end LW

set_option Elab.async false
set_option linter.all false
set_option maxRecDepth 100000
set_option maxHeartbeats 4000000
namespace LW
open PySem PySem.Spec PyProof.Rows L2 AL
/-! ### the defs' promises -/
abbrev sp_law_pick : Spc := spPick
def splook_ahead : Spc := fun ds P => ∃ (w : List Int) (n : Nat), ds = [wd w, .int n] ∧ w.length ≤ 1000 ∧ n ≤ 10000 ∧ P (wd (looks w n))
def spstands_at : Spc := fun ds P => ∃ (w : List Int) (p n : Nat), ds = [wd w, .int p, .int n] ∧ w.length ≤ 1000 ∧ p < w.length ∧ n ≤ 10000 ∧ P (.bool (sq w p n))
def spsquares_at : Spc := fun ds P => ∃ (w : List Int) (p : Nat), ds = [wd w, .int p] ∧ w.length ≤ 1000 ∧ p ≤ w.length ∧ P (.tuple (nd (sqN w p)))
def spstands_of : Spc := fun ds P => ∃ (w : List Int), ds = [wd w] ∧ w.length ≤ 1000 ∧ P (.dict (encT (encS (standsD w))))
def spall_squares : Spc := fun ds P => ∃ (w : List Int), ds = [wd w] ∧ w.length ≤ 1000 ∧ P (.tuple ((srtW ((standsD w).map (·.1))).map wd))
def splast_lengths : Spc := fun ds P => ∃ (w : List Int), ds = [wd w] ∧ w.length ≤ 1000 ∧ P (.tuple ((lastsD w).map fun l => .tuple ((srt l).map .int)))
def spis_without_squares : Spc := fun ds P => ∃ (w : List Int), ds = [wd w] ∧ w.length ≤ 1000 ∧ P (.bool (standsD w).isEmpty)
/-- look_ahead: 0 word, 1 length, 2 found, 3 late, 4 place -/
abbrev Nlook_ahead : List Str := ["word", "length", "found", "late", "place"]
def Wlook_ahead : WS :=
 (wSeq (wPar 2 3 (wmOwn (wLst wNil) (wmDat (wC (.int 0)) wmNil)))
 (wSeq (wFor (wiR3 (wCons (wBin (intD fun i j => i - j) (wUn lenD (wVar 0)) (wC (.int 1))) (wCons (wNeg (wC (.int 1))) (wCons (wNeg (wC (.int 1))) wNil)))) (gN 4) (wSeq (wSet 3 (wIfE (wtAnd (wtB (wBin ltD (wBin addD (wVar 4) (wVar 1)) (wUn lenD (wVar 0)))) (wtB (wBin eqD (wBin ixD (wVar 0) (wVar 4)) (wBin ixD (wVar 0) (wBin addD (wVar 4) (wVar 1)))))) (wBin addD (wVar 3) (wC (.int 1))) (wC (.int 0))))
 (wApp 2 (wVar 3))) [])
 (wRet (wUn tupD (wRevV 2)))))

/-- stands_at: 0 word, 1 place, 2 length -/
abbrev Nstands_at : List Str := ["word", "place", "length"]
def Wstands_at : WS :=
 (wRet (wAndV (wBin leD (wBin addD (wVar 1) (wBin mulD (wC (.int 2)) (wVar 2))) (wUn lenD (wVar 0))) (wBin (cmpD fun i j => decide (i ≥ j)) (wBin ixD (wCall 2 splook_ahead (wCons (wVar 0) (wCons (wVar 2) wNil))) (wVar 1)) (wVar 2))))

/-- squares_at: 0 word, 1 place, 2 most, 3 length -/
abbrev Nsquares_at : List Str := ["word", "place", "most", "length"]
def Wsquares_at : WS :=
 (wSeq (wSet 2 (wBin fdivD (wBin (intD fun i j => i - j) (wUn lenD (wVar 0)) (wVar 1)) (wC (.int 2))))
 (wRet (wUn tupD (wFz (wLc (wiR2 (wCons (wC (.int 1)) (wCons (wBin addD (wVar 2) (wC (.int 1))) wNil))) (gN 3) (wtB (wCall 3 spstands_at (wCons (wVar 0) (wCons (wVar 1) (wCons (wVar 3) wNil))))) (wVar 3) [3])))))

/-- stands_of: 0 word, 1 found, 2 place, 3 length, 4 square -/
abbrev Nstands_of : List Str := ["word", "found", "place", "length", "square"]
def Wstands_of : WS :=
 (wSeq (wSetO 1 (wNewD dkT))
 (wSeq (wFor (wiR1 (wCons (wUn lenD (wVar 0)) wNil)) (gN 2) (wFor (wiT (wCall 2 spsquares_at (wCons (wVar 0) (wCons (wVar 2) wNil)))) (gN 3) (wSeq (wSet 4 (wSl (wVar 0) (wPart (wVar 2)) (wPart (wBin addD (wVar 2) (wBin mulD (wC (.int 2)) (wVar 3))))))
 (wPutD dkT 1 (wFz (wLst (wStar (wGet2V dkT 1 (wVar 4) (wFz (wLst wNil))) (wCons (wVar 2) wNil)))) (wVar 4))) []) [])
 (wRet (wVar 1))))

/-- all_squares: 0 word -/
abbrev Nall_squares : List Str := ["word"]
def Wall_squares : WS :=
 (wRet (wUn tupD (wFz (wUnO (sortKD dkT) (wCall 1 spstands_of (wCons (wVar 0) wNil))))))

/-- last_lengths: 0 word, 1 found, 2 square, 3 places, 4 letter, 5 lengths -/
abbrev Nlast_lengths : List Str := ["word", "found", "square", "places", "letter", "lengths"]
def Wlast_lengths : WS :=
 (wSeq (wSetO 1 (wLcs (wiT (wVar 0)) (gN 4) wYes [4]))
 (wSeq (wFor (wiI dkT (wCall 1 spstands_of (wCons (wVar 0) wNil))) (gTupA 2 (gConsA (gN 2) (gConsA (gN 3) gNilA))) (wAppIx 1 (wBin ixD (wVar 3) (wNeg (wC (.int 1)))) (wBin fdivD (wUn lenD (wVar 2)) (wC (.int 2)))) [])
 (wRet (wUn tupD (wFz (wLc (wiL (wVar 1)) (gN 5) wYes (wUn tupD (wFz (wUnO sortD (wVar 5)))) [5]))))))

/-- is_without_squares: 0 word -/
abbrev Nis_without_squares : List Str := ["word"]
def Wis_without_squares : WS :=
 (wRet (wBin eqD (wCall 1 spall_squares (wCons (wVar 0) wNil)) (wTup wNil)))

theorem pulook_ahead : ∀ ds Q, ds.length = 2 → splook_ahead ds Q → Wlook_ahead { nx := fun _ => Q .none, rt := fun d _ => Q d } (startA Nlook_ahead (ds.map .dat)) := by
  rintro ds Q _ ⟨w, n, rfl, hw, hn, q⟩
  have hL : (looks w n).length = w.length := by simp [looks]
  have h62 : ∀ i : Int, -2000 ≤ i → i ≤ 2000 → small62 i := fun i h1 h2 => ⟨by omega, by omega⟩
  refine ⟨Nat.zero_le _, ⟨rfl, h62 _ (by dsimp only; omega) (by dsimp only; rw [List.length_map]; omega), h62 _ (by decide) (by decide)⟩, ?_⟩
  show wForL _ _ _ _ (rangeC _ _ _) _
  rw [rangeC_down (n := w.length) (by dsimp only; rw [List.length_map]) (by dsimp only; rw [List.length_map]; omega)]
  refine forL_range _ _ (fun i ρ => i ≤ w.length ∧ ∃ pl, ρ = [.dat (wd w), .dat (.int n), .own (.lst ((((looks w n).drop (w.length - i)).reverse).map .int)), .dat (.int (far w n (w.length - i))), pl]) (fun i ρ hi hI K hK => ?_) (fun ρ hI => ?_) ⟨Nat.zero_le _, .unk, ?_⟩
  · obtain ⟨_, pl, rfl⟩ := hI
    obtain ⟨p, hp⟩ : ∃ p, p = w.length - 1 - i := ⟨_, rfl⟩
    have e1 : w.length - i = p + 1 := by omega
    have e2 : w.length - (i + 1) = p := by omega
    have hpl : p < w.length := by omega
    -- what K takes
    have done : ∀ v : Int, v = (far w n p : Int) → K [.dat (wd w), .dat (.int n), .own (.lst ((((looks w n).drop (p + 1)).reverse).map .int ++ [.int v])), .dat (.int v), .dat (.int p)] := fun v hv => by
      refine hK _ ⟨hi, .dat (.int p), ?_⟩
      have hx : (looks w n)[p]? = some (far w n p : Int) := by
        unfold looks
        rw [List.getElem?_map, List.getElem?_range hpl]
        rfl
      obtain ⟨h1, h2⟩ := List.getElem?_eq_some_iff.mp hx
      rw [e2, List.drop_eq_getElem_cons h1, h2, hv]
      simp
    have app : ∀ v : Int, v = (far w n p : Int) → (wApp 2 (wVar 3)) { nx := K, rt := fun d _ => Q d, bk := fun _ => False, ct := K } [.dat (wd w), .dat (.int n), .own (.lst ((((looks w n).drop (p + 1)).reverse).map .int)), .dat (.int v), .dat (.int p)] := fun v hv =>
      ⟨⟨_, rfl⟩, _, rfl, small_lt (by simp [hL]; omega), done v hv⟩
    obtain ⟨a, ha⟩ : ∃ a, w[p]? = some a := ⟨_, List.getElem?_eq_getElem hpl⟩
    rw [e1]
    show wSeq _ _ _ ((_ : AEnv).set 4 (.dat (.int ((w.length - 1 - i : Nat) : Int))))
    rw [← hp]
    refine ite2 (fun e => ?_) (fun e => ?_)
    · have h1 : p + n < w.length := by
        have := of_decide_eq_true e
        rw [List.length_map] at this
        omega
      obtain ⟨b, hb⟩ : ∃ b, w[p + n]? = some b := ⟨_, List.getElem?_eq_getElem h1⟩
      refine ⟨.int a, at_int ha, .int b, at_int (p := p + n) hb, rfl, rfl, ite2 (fun e => ?_) (fun e => ?_)⟩
      · rw [eqv_int] at e
        exact app _ (by rw [far_step ha hb, if_pos (of_decide_eq_true e)]; simp)
      · rw [eqv_int] at e
        exact app _ (by rw [far_step ha hb, if_neg (fun z => e (decide_eq_true z))]; rfl)
    · refine ite2 (fun z => by cases z) (fun _ => ?_)
      exact app _ (by
        rw [far_end]; rfl
        rcases Nat.lt_or_ge (p + n) w.length with h | h
        · exact absurd (decide_eq_true (by rw [List.length_map]; omega)) e
        · exact h)
  · obtain ⟨_, pl, rfl⟩ := hI
    refine ⟨_, rfl, ?_⟩
    have : wd (looks w n) = .tuple ((((looks w n).drop (w.length - w.length)).reverse).map PyData.int).reverse := by
      rw [Nat.sub_self, List.drop_zero, List.map_reverse, List.reverse_reverse]; rfl
    show Q (.tuple ((((looks w n).drop (w.length - w.length)).reverse).map PyData.int).reverse)
    rw [← this]
    exact q
  · rw [Nat.sub_zero, List.drop_of_length_le (by rw [hL]; exact Nat.le_refl _), far_end (by omega)]
    rfl
theorem enc_lt {d : List (List Int × List Nat)} (h : d.length < 16777216) : (encS d).length < sizeLine := by rw [len_enc]; exact small_lt h
theorem pustands_at : ∀ ds Q, ds.length = 3 → spstands_at ds Q → Wstands_at { nx := fun _ => Q .none, rt := fun d _ => Q d } (startA Nstands_at (ds.map .dat)) := by
  rintro ds Q _ ⟨w, p, n, rfl, hw, hp, hn, q⟩
  refine ⟨.inl (by decide), ite2 (fun e => ?_) (fun e => ?_)⟩
  · have e := of_decide_eq_true e
    rw [List.length_map] at e
    refine ⟨rfl, w, n, rfl, hw, hn, _, at_int (w := looks w n) (p := p) (a := (far w n p : Int)) (by unfold looks; rw [List.getElem?_map, List.getElem?_range hp]; rfl), ?_⟩
    have : (decide ((far w n p : Int) ≥ (n : Int))) = sq w p n := by
      unfold sq
      rw [decide_eq_decide]
      constructor
      · intro h; exact ⟨by omega, by omega⟩
      · intro h; omega
    show Q (.bool (decide ((far w n p : Int) ≥ (n : Int))))
    rw [this]
    exact q
  · have : sq w p n = false := by
      unfold sq
      refine decide_eq_false fun h => e (decide_eq_true ?_)
      rw [List.length_map]
      omega
    rw [this] at q
    exact q
theorem pusquares_at : ∀ ds Q, ds.length = 2 → spsquares_at ds Q → Wsquares_at { nx := fun _ => Q .none, rt := fun d _ => Q d } (startA Nsquares_at (ds.map .dat)) := by
  rintro ds Q _ ⟨w, p, rfl, hw, hp, q⟩
  have hl : (w.map PyData.int).length = w.length := List.length_map _
  have hm : (((w.map PyData.int).length : Int) - (p : Int)) / 2 = (((w.length - p) / 2 : Nat) : Int) := by rw [hl]; omega
  refine ⟨⟨by decide, by decide⟩, ?_⟩
  dsimp only
  rw [hm]
  refine ⟨⟨s62 (by decide) (by decide), s62 (by omega) (by omega)⟩, ?_⟩
  show wLcL _ _ _ _ _ (rangeL 1 _) [] _
  rw [rangeL_1 (n := (w.length - p) / 2) (by omega)]
  refine lcL_pure (fun d => sq w p (numD d)) (fun d => d) (fun d hd Ky Kn h1 h2 => ?_) ?_ ?_
  · obtain ⟨n, hn, rfl⟩ := List.mem_map.mp hd
    obtain ⟨j, hj, rfl⟩ := List.mem_map.mp hn
    have hj := List.mem_range.mp hj
    refine ⟨rfl, w, p, j + 1, rfl, hw, by omega, by omega, ite2 (fun e => h1 e _ rfl) (fun e => h2 (Bool.eq_false_iff.mpr e) _ rfl)⟩
  · exact small_len (by simp; omega)
  · have e := filter_nd (sq w p) ((List.range ((w.length - p) / 2)).map (· + 1))
    have e2 : (((List.map (fun x => x + 1) (List.range ((w.length - p) / 2))).map fun (i : Nat) => PyData.int (i : Int)).filter fun d => sq w p (numD d)) = nd (sqN w p) := e
    rw [e2]
    show Q (.tuple ([] ++ (nd (sqN w p)).map fun d => d))
    rw [List.map_id', List.nil_append]
    exact q
theorem pustands_of : ∀ ds Q, ds.length = 1 → spstands_of ds Q → Wstands_of { nx := fun _ => Q .none, rt := fun d _ => Q d } (startA Nstands_of (ds.map .dat)) := by
  rintro ds Q _ ⟨w, rfl, hw, q⟩
  have hl : (w.map PyData.int).length = w.length := List.length_map _
  refine ⟨s62 (by omega) (by omega), ?_⟩
  show wForL _ _ _ _ (rangeL 0 _) _
  rw [rangeL_0 (n := w.length) (by omega)]
  refine forL_range _ _ (fun i ρ => i ≤ w.length ∧ ∃ x y z, ρ = [.dat (wd w), .own (.dic (.dict (encT (encS (grp (occTo w i)))))), x, y, z]) (fun i ρ hi hI K hK => ?_) (fun ρ hI => ?_) ⟨Nat.zero_le _, .unk, .unk, .unk, rfl⟩
  · obtain ⟨_, x, y, z, rfl⟩ := hI
    refine ⟨rfl, w, i, rfl, hw, by omega, ?_⟩
    show wForL _ _ _ _ (nd (sqN w i)) _
    refine forL_list (fun rest ρ => ∃ done todo y z, sqN w i = done ++ todo ∧ rest = nd todo ∧ ρ = [.dat (wd w), .own (.dic (.dict (encT (encS (grp (occTo w i ++ done.map fun n => (sub w i (2 * n), i))))))), .dat (.int i), y, z]) (fun d rest ρ hI K' hK' => ?_) (fun ρ hI => ?_) ⟨[], _, y, z, rfl, rfl, by rw [List.map_nil, List.append_nil]; rfl⟩
    · obtain ⟨done, todo, y, z, e1, e2, rfl⟩ := hI
      cases todo with
      | nil => cases e2
      | cons n todo =>
        cases e2
        have hn : n ∈ sqN w i := by rw [e1]; simp
        obtain ⟨n1, n2⟩ := (mem_sqN (by omega)).mp hn
        have n3 := (of_decide_eq_true n2).1
        have esub := cut_sub w i (2 * n)
        rw [show ((i : Int) + ((2 * n : Nat) : Int)) = (i : Int) + 2 * (n : Int) by omega] at esub
        refine ⟨.inl (by decide), ?_⟩
        dsimp only [wd, addD]
        rw [esub]
        obtain ⟨L, hL⟩ : ∃ L, L = occTo w i ++ done.map fun n => (sub w i (2 * n), i) := ⟨_, rfl⟩
        have hlen : L.length ≤ 1000000 := by
          have h3 := occTo_len (w := w) (m := i)
          have h4 : done.length ≤ w.length := by
            have := sqN_len (w := w) (p := i)
            rw [e1, List.length_append] at this
            omega
          have h5 : i * w.length ≤ 999 * 1000 := Nat.mul_le_mul (by omega) hw
          rw [hL, List.length_append, List.length_map]
          omega
        have h1 := len_grp (l := L)
        have h2 := val_grp (l := L) (k := sub w i (2 * n))
        rw [← hL]
        refine ⟨⟨_, rfl⟩, Nat.zero_le _, encS (grp L), kw (sub w i (2 * n)), rfl, (key_kw _).symm, ?_⟩
        erw [get_enc]
        refine ⟨?_, ⟨_, rfl⟩, encS (grp L), kw (sub w i (2 * n)), rfl, (key_kw _).symm, enc_lt (by omega), ?_⟩
        · rw [List.length_append, List.length_map]
          exact small_len (by simp; omega)
        · have e3 : (.list ((((lookA (grp L) (sub w i (2 * n))).getD []).map fun (p : Nat) => PyData.int p) ++ [.int i]) : PyData) = ps ((lookA (grp L) (sub w i (2 * n))).getD [] ++ [i]) := by simp [ps]
          refine hK' _ ⟨done ++ [n], todo, .dat (.int n), .dat (wd (sub w i (2 * n))), by rw [e1]; simp, rfl, ?_⟩
          show [AV.dat (wd w), .own (.dic (.dict (encT (putP (encS (grp L)) (kw (sub w i (2 * n))) (.list ((((lookA (grp L) (sub w i (2 * n))).getD []).map fun (p : Nat) => PyData.int p) ++ [.int i])))))), .dat (.int i), _, _] = _
          rw [e3, put_enc nodup_grp, List.map_append, ← List.append_assoc, ← hL, List.map_cons, List.map_nil, grp_snoc]
          rfl
    · obtain ⟨done, todo, y, z, e1, e2, rfl⟩ := hI
      have : todo = [] := by cases todo with | nil => rfl | cons _ _ => cases e2
      subst this
      rw [List.append_nil] at e1
      refine hK _ ⟨hi, .dat (.int i), y, z, ?_⟩
      rw [occTo_succ]
      unfold occAt
      rw [e1]
  · obtain ⟨_, x, y, z, rfl⟩ := hI
    exact q
theorem puall_squares : ∀ ds Q, ds.length = 1 → spall_squares ds Q → Wall_squares { nx := fun _ => Q .none, rt := fun d _ => Q d } (startA Nall_squares (ds.map .dat)) := by
  rintro ds Q _ ⟨w, rfl, hw, q⟩
  refine ⟨rfl, w, rfl, hw, encS (standsD w), rfl, ?_, ?_⟩
  · exact (keys_enc (d := standsD w)) ▸ srt_wds fun s hs => key_ne hs
  · have e : sortedBy ((encS (standsD w)).map fun p => dkT.key p.1) = (srtW ((standsD w).map (·.1))).map wd := by rw [keys_enc, sorted_wds]
    exact e ▸ q
theorem puis_without_squares : ∀ ds Q, ds.length = 1 → spis_without_squares ds Q → Wis_without_squares { nx := fun _ => Q .none, rt := fun d _ => Q d } (startA Nis_without_squares (ds.map .dat)) := by
  rintro ds Q _ ⟨w, rfl, hw, q⟩
  refine ⟨rfl, w, rfl, hw, Nat.zero_le _, ok_wds _, rfl, ?_⟩
  have e : PyData.eqv (.tuple ((srtW ((standsD w).map (·.1))).map wd)) (.tuple []) = (standsD w).isEmpty := by
    have hl := (srtW_perm ((standsD w).map (·.1))).length_eq
    rw [List.length_map] at hl
    cases h1 : standsD w with
    | nil => rw [h1] at hl; rw [List.length_eq_zero_iff.mp hl]; rfl
    | cons a l =>
      rw [h1] at hl
      cases h2 : srtW (((a :: l)).map (·.1)) with
      | nil => rw [h2] at hl; simp at hl
      | cons b m => rfl
  exact e ▸ q
theorem pulast_lengths : ∀ ds Q, ds.length = 1 → splast_lengths ds Q → Wlast_lengths { nx := fun _ => Q .none, rt := fun d _ => Q d } (startA Nlast_lengths (ds.map .dat)) := by
  rintro ds Q _ ⟨w, rfl, hw, q⟩
  have hl : (w.map PyData.int).length = w.length := List.length_map _
  have hD : (standsD w).length ≤ 1000000 := by
    have h1 := len_grp (l := occTo w w.length)
    have h2 := occTo_len (w := w) (m := w.length)
    have h3 : w.length * w.length ≤ 1000 * 1000 := Nat.mul_le_mul hw hw
    exact Nat.le_trans h1 (by omega)
  refine lcsL_all (fun d hd Ky Kn h => h _ rfl) (by rw [hl]; exact small_len (by omega)) ?_
  rw [Nat.zero_add, hl]
  refine ⟨rfl, w, rfl, hw, encS (standsD w), rfl, ?_⟩
  have items : ((encS (standsD w)).map fun p => PyData.tuple [dkT.key p.1, p.2]) = (standsD w).map fun x => .tuple [wd x.1, ps x.2] := by
    unfold encS
    rw [List.map_map]
    exact List.map_congr_left fun x _ => by simp [key_kw]
  erw [items]
  refine forL_list (fun rest ρ => ∃ done todo x y, standsD w = done ++ todo ∧ rest = (todo.map fun x => PyData.tuple [wd x.1, ps x.2]) ∧ ρ = [.dat (wd w), .own (.lsts ((lastF done w.length).map fun l => l.map .int)), x, y, .unk, .unk]) (fun d rest ρ hI K hK => ?_) (fun ρ hI => ?_) ⟨[], _, .unk, .unk, rfl, rfl, by simp [lastF]; rfl⟩
  · obtain ⟨done, todo, x, y, e1, e2, rfl⟩ := hI
    cases todo with
    | nil => cases e2
    | cons z todo =>
      cases e2
      have hz : z ∈ standsD w := by rw [e1]; simp
      obtain ⟨hne, hpl⟩ := stands_place hz
      obtain ⟨p, hp⟩ : ∃ p, z.2.getLast? = some p := by
        cases h : z.2.getLast? with
        | none => exact absurd (List.getLast?_eq_none_iff.mp h) hne
        | some p => exact ⟨p, rfl⟩
      have hpm := hpl p (List.mem_of_getLast? hp)
      have hp1 := (mem_occTo.mp hpm).1
      obtain ⟨hL1, hL2⟩ := lastF_len (d := done) (n := w.length)
      obtain ⟨l, hl'⟩ : ∃ l, (lastF done w.length)[p]? = some l := ⟨_, List.getElem?_eq_getElem (by omega)⟩
      have hll := hL2 l (List.mem_of_getElem? hl')
      have hdl : done.length ≤ 1000000 := by rw [e1, List.length_append] at hD; omega
      refine ⟨rfl, rfl, ⟨_, rfl⟩, .int p, at_last (by rw [List.getLast?_map, hp]; rfl), _, p, p, l.map .int, rfl, rfl, ixN_nat (by rw [List.length_map]; omega), by rw [List.getElem?_map, hl']; rfl, ⟨by decide, by decide⟩, small_lt (by rw [List.length_map]; omega), ?_⟩
      refine hK _ ⟨done ++ [z], todo, .dat (wd z.1), .dat (ps z.2), by rw [e1]; simp, rfl, ?_⟩
      have e3 : ((lastF done w.length).map fun l => l.map PyData.int).set p (l.map PyData.int ++ [.int (((z.1.map PyData.int).length : Int) / 2)]) = (lastF (done ++ [z]) w.length).map fun l => l.map PyData.int := by
        rw [lastF_snoc, hp]
        apply List.ext_getElem?
        intro i
        rw [List.getElem?_set, List.length_map, List.getElem?_map, List.getElem?_map, List.getElem?_modify, Option.getD_some]
        by_cases h : p = i
        · subst h
          rw [if_pos rfl, if_pos (by omega), hl']
          simp
        · rw [if_neg h]
          simp [h]
      show [AV.dat (wd w), .own (.lsts (((lastF done w.length).map fun l => l.map PyData.int).set p (l.map PyData.int ++ [.int (((z.1.map PyData.int).length : Int) / 2)]))), _, _, _, _] = _
      rw [e3]
  · obtain ⟨done, todo, x, y, e1, e2, rfl⟩ := hI
    have : todo = [] := by cases todo with | nil => rfl | cons _ _ => cases e2
    subst this
    rw [List.append_nil] at e1
    rw [← e1]
    have hL1 := (lastF_len (d := standsD w) (n := w.length)).1
    show wLcL _ _ _ _ _ ((((lastF (standsD w) w.length).map fun l => l.map PyData.int)).map PyData.list) [] _
    rw [List.map_map]
    refine lcL_map (fun d => match d with | .list xs => .tuple (sortedBy xs) | _ => .none) (fun d hd Ky Kn h => ?_) (by rw [List.length_map, hL1]; exact small_len (by omega)) ?_
    · obtain ⟨l, hl, rfl⟩ := List.mem_map.mp hd
      exact ⟨_, rfl, ok_list_ints l, srt_ints l, h _ rfl⟩
    · rw [List.map_map]
      have : ((lastF (standsD w) w.length).map ((fun d => match d with | PyData.list xs => PyData.tuple (sortedBy xs) | _ => .none) ∘ (PyData.list ∘ fun l => l.map PyData.int))) = (lastsD w).map fun l => .tuple ((srt l).map .int) :=
        List.map_congr_left fun l _ => by simp [AL.sorted_ints]
      exact this ▸ q
end LW

set_option Elab.async false
set_option linter.all false
set_option maxRecDepth 100000
set_option maxHeartbeats 4000000
namespace LW
open PySem PySem.Spec PyProof.Rows L2 AL
/-! ### drawn words -/
/-- a word of at most n letters below k -/
def Dr (w : List Int) (n : Nat) (k : Int) : Prop := w.length ≤ n ∧ ∀ x ∈ w, 0 ≤ x ∧ x < k
def sp_law_any_order : Spc := fun ds P => ∃ xs, ds = [.list xs] ∧ xs.length ≤ 1000 ∧ ∀ ys, ys.Perm xs → P (.list ys)
def sp_law_word : Spc := fun ds P => ∃ (n : Nat) (k : Int), ds = [.int n, .int k] ∧ n ≤ 900 ∧ 2 ≤ k ∧ k ≤ 1000 ∧ ∀ w, Dr w n k → P (wd w)
def sp_law_square_word : Spc := fun ds P => ∃ n : Nat, ds = [.int n] ∧ n ≤ 900 ∧ ∀ w, Dr w n 3 → P (wd w)
def sp_law_stands : Spc := fun ds P => ∃ w, ds = [wd w] ∧ w.length ≤ 1000 ∧ P (.dict (encT (encS (standsD w))))
/-- _law_any_order: 0 source, 1 things, 2 others, 3 lap -/
abbrev N_law_any_order : List Str := ["source", "things", "others", "lap"]
def W_law_any_order : WS :=
 (wSeq (wSetO 2 (wUnO lstD (wVar 1)))
 (wRet (wFz (wLc (wiR1 (wCons (wLenV 2) wNil)) (gN 3) wYes (wPopAt 2 (wCallS 0 1 sp_law_pick (wCons (wLenV 2) wNil))) [3]))))

/-- _law_word: 0 source, 1 most, 2 letters, 3 n, 4 way, 5 word, 6 part, 7 k, 8 letter -/
abbrev N_law_word : List Str := ["source", "most", "letters", "n", "way", "word", "part", "k", "letter"]
def W_law_word : WS :=
 (wSeq (wPar 3 4 (wmDat (wCallS 0 1 sp_law_pick (wCons (wBin addD (wVar 1) (wC (.int 1))) wNil)) (wmDat (wCallS 0 1 sp_law_pick (wCons (wC (.int 4)) wNil)) wmNil)))
 (wSeq (wSet 5 (wUn tupD (wFz (wLc (wiR1 (wCons (wVar 3) wNil)) (gN 7) wYes (wCallS 0 1 sp_law_pick (wCons (wVar 2) wNil)) [7]))))
 (wSeq (wIf (wtAnd (wtB (wBin eqD (wVar 4) (wC (.int 0)))) (wtB (wBin (cmpD fun i j => decide (i > j)) (wVar 3) (wC (.int 1))))) (wSeq (wSet 6 (wSl (wVar 5) wNo (wPart (wBin addD (wC (.int 1)) (wCallS 0 1 sp_law_pick (wCons (wVar 3) wNil))))))
 (wSet 5 (wSl (wBin mulD (wVar 6) (wVar 3)) wNo (wPart (wVar 3))))) wNext)
 (wSeq (wIf (wtAnd (wtB (wBin eqD (wVar 4) (wC (.int 1)))) (wtB (wBin (cmpD fun i j => decide (i > j)) (wVar 3) (wC (.int 1))))) (wSet 5 (wBin addD (wBin mulD (wSl (wVar 5) wNo (wPart (wBin fdivD (wVar 3) (wC (.int 2))))) (wC (.int 2))) (wSl (wVar 5) wNo (wPart (wBin modD (wUn intOfD (wVar 3)) (wC (.int 2))))))) wNext)
 (wSeq (wIf (wtB (wBin eqD (wVar 4) (wC (.int 2)))) (wSet 5 (wUn tupD (wFz (wLc (wiT (wVar 5)) (gN 8) wYes (wBin2 (fun i j => if j < i then j else i) (wVar 8) (wC (.int 1))) [8])))) wNext)
 (wRet (wVar 5)))))))

/-- _law_stands: 0 word, 1 found, 2 place, 3 length, 4 part -/
abbrev N_law_stands : List Str := ["word", "found", "place", "length", "part"]
def W_law_stands : WS :=
 (wSeq (wSetO 1 (wNewD dkT))
 (wSeq (wFor (wiR1 (wCons (wUn lenD (wVar 0)) wNil)) (gN 2) (wFor (wiR2 (wCons (wC (.int 1)) (wCons (wBin addD (wBin fdivD (wBin (intD fun i j => i - j) (wUn lenD (wVar 0)) (wVar 2)) (wC (.int 2))) (wC (.int 1))) wNil))) (gN 3) (wSeq (wSet 4 (wSl (wVar 0) (wPart (wVar 2)) (wPart (wBin addD (wVar 2) (wBin mulD (wC (.int 2)) (wVar 3))))))
 (wIf (wtB (wBin eqD (wSl (wVar 4) wNo (wPart (wVar 3))) (wSl (wVar 4) (wPart (wVar 3)) wNo))) (wPutD dkT 1 (wBin addD (wGet2V dkT 1 (wVar 4) (wFz (wLst wNil))) (wFz (wLst (wCons (wVar 2) wNil)))) (wVar 4)) wNext)) []) [])
 (wRet (wVar 1))))

/-- _law_square_word: 0 source, 1 most, 2 way, 3 word, 4 lap, 5 one, 6 other -/
abbrev N_law_square_word : List Str := ["source", "most", "way", "word", "lap", "one", "other"]
def W_law_square_word : WS :=
 (wSeq (wSet 2 (wCallS 0 1 sp_law_pick (wCons (wC (.int 4)) wNil)))
 (wSeq (wIf (wtB (wBin eqD (wVar 2) (wC (.int 0)))) (wSeq (wSet 3 (wTup (wCons (wC (.int 0)) wNil)))
 (wSeq (wFor (wiR1 (wCons (wC (.int 6)) wNil)) (gN 4) (wSeq (wSet 3 (wBin addD (wVar 3) (wSl (wVar 3) wNo (wPart (wBin addD (wC (.int 1)) (wCallS 0 1 sp_law_pick (wCons (wUn lenD (wVar 3)) wNil)))))))
 (wSet 3 (wBin addD (wVar 3) (wBin mulD (wTup (wCons (wCallS 0 1 sp_law_pick (wCons (wC (.int 2)) wNil)) wNil)) (wCallS 0 1 sp_law_pick (wCons (wC (.int 2)) wNil)))))) [])
 (wRet (wSl (wVar 3) wNo (wPart (wVar 1)))))) wNext)
 (wSeq (wIf (wtB (wBin eqD (wVar 2) (wC (.int 1)))) (wSeq (wAsg (wTup (wCons (wTup (wCons (wC (.int 0)) (wCons (wC (.int 1)) wNil))) (wCons (wTup (wCons (wC (.int 0)) wNil)) wNil))) (gTupA 2 (gConsA (gN 5) (gConsA (gN 6) gNilA))))
 (wSeq (wFor (wiR1 (wCons (wC (.int 6)) wNil)) (gN 4) (wPar 5 6 (wmDat (wBin addD (wBin mulD (wVar 5) (wBin addD (wC (.int 1)) (wCallS 0 1 sp_law_pick (wCons (wC (.int 2)) wNil)))) (wVar 6)) (wmDat (wVar 5) wmNil))) [])
 (wRet (wSl (wVar 5) wNo (wPart (wCallS 0 1 sp_law_pick (wCons (wBin addD (wVar 1) (wC (.int 1))) wNil))))))) wNext)
 (wRet (wCallS 0 2 sp_law_word (wCons (wVar 1) (wCons (wC (.int 3)) wNil)))))))

theorem perm_erase {α : Type} : ∀ {l : List α} {n : Nat} (h : n < l.length), (l[n] :: l.eraseIdx n).Perm l
  | a :: l, 0, _ => List.Perm.refl _
  | a :: l, n + 1, h => by
    have h' : n < l.length := by simpa using h
    have := perm_erase h'
    exact (List.Perm.swap a l[n] _).trans (this.cons a)
theorem pu_law_any_order : ∀ (a l : Addr) ds Q, ds.length = 1 → sp_law_any_order ds Q → W_law_any_order { nx := fun ρ => ρ[0]? = some (.own (.src a l)) ∧ Q .none, rt := fun d ρ => ρ[0]? = some (.own (.src a l)) ∧ Q d } (startA N_law_any_order (.own (.src a l) :: ds.map .dat)) := by
  rintro a l ds Q _ ⟨xs, rfl, hl, q⟩
  refine ⟨xs, rfl, s62 (by omega) (by omega), ?_⟩
  show wLcL _ _ _ _ _ (rangeL 0 _) [] _
  rw [rangeL_0 (n := xs.length) (by omega)]
  refine lcL_inv (fun rest acc ρ => ∃ others, ρ = [.own (.src a l), .dat (.list xs), .own (.lst others), .unk] ∧ rest.length = others.length ∧ (acc ++ others).Perm xs) (fun d rest acc ρ hI K hK => ?_) (fun acc ρ hI => ?_) ⟨xs, rfl, by simp, List.Perm.refl _⟩
  · obtain ⟨others, rfl, hlen, hp⟩ := hI
    have hle := hp.length_eq
    rw [List.length_append] at hle
    rw [List.length_cons] at hlen
    refine ⟨⟨_, rfl⟩, a, l, rfl, others, rfl, rfl, rfl, _, rfl, by omega, fun r r0 hr => ?_⟩
    have hr' : r < others.length := by omega
    obtain ⟨n, rfl⟩ : ∃ n : Nat, r = n := ⟨r.toNat, by omega⟩
    obtain ⟨y, hy⟩ : ∃ y, others[n]? = some y := ⟨_, List.getElem?_eq_getElem (by omega)⟩
    refine ⟨others, n, y, rfl, rfl, hy, by omega, small_lt (by omega), hK _ _ ⟨others.eraseIdx n, rfl, ?_, ?_⟩⟩
    · rw [List.length_eraseIdx, if_pos (by omega)]; omega
    · rw [List.append_assoc]
      refine (List.Perm.append_left acc ?_).trans hp
      obtain ⟨h1, h2⟩ := List.getElem?_eq_some_iff.mp hy
      subst h2
      exact perm_erase h1
  · obtain ⟨others, rfl, hlen, hp⟩ := hI
    have : others = [] := List.length_eq_zero_iff.mp hlen.symm
    subst this
    rw [List.append_nil] at hp
    exact ⟨rfl, q _ hp⟩
theorem pu_law_stands : ∀ ds Q, ds.length = 1 → sp_law_stands ds Q → W_law_stands { nx := fun _ => Q .none, rt := fun d _ => Q d } (startA N_law_stands (ds.map .dat)) := by
  rintro ds Q _ ⟨w, rfl, hw, q⟩
  have hl : (w.map PyData.int).length = w.length := List.length_map _
  refine ⟨s62 (by omega) (by omega), ?_⟩
  show wForL _ _ _ _ (rangeL 0 _) _
  rw [rangeL_0 (n := w.length) (by omega)]
  refine forL_range _ _ (fun i ρ => i ≤ w.length ∧ ∃ x y z, ρ = [.dat (wd w), .own (.dic (.dict (encT (encS (grp (occTo w i)))))), x, y, z]) (fun i ρ hi hI K hK => ?_) (fun ρ hI => ?_) ⟨Nat.zero_le _, .unk, .unk, .unk, rfl⟩
  · obtain ⟨_, x, y, z, rfl⟩ := hI
    have hm : (((w.map PyData.int).length : Int) - (i : Int)) / 2 = (((w.length - i) / 2 : Nat) : Int) := by rw [hl]; omega
    refine ⟨⟨by decide, by decide⟩, ⟨s62 (by decide) (by decide), ?_⟩, ?_⟩
    · exact s62 (by dsimp only; omega) (by dsimp only; omega)
    dsimp only
    rw [hm, rangeL_1 (n := (w.length - i) / 2) (by omega), List.map_map]
    obtain ⟨pre, hpre⟩ : ∃ pre : Nat → List Nat, pre = fun m => ((List.range m).map (· + 1)).filter (sq w i) := ⟨_, rfl⟩
    refine forL_range _ _ (fun m ρ => m ≤ (w.length - i) / 2 ∧ ∃ y z, ρ = [.dat (wd w), .own (.dic (.dict (encT (encS (grp (occTo w i ++ (pre m).map fun n => (sub w i (2 * n), i))))))), .dat (.int i), y, z]) (fun m ρ hm' hI K' hK' => ?_) (fun ρ hI => ?_) ⟨Nat.zero_le _, y, z, by rw [hpre]; simp⟩
    · obtain ⟨_, y, z, rfl⟩ := hI
      obtain ⟨n, hn⟩ : ∃ n, n = m + 1 := ⟨_, rfl⟩
      have n3 : i + 2 * n ≤ w.length := by omega
      have hpre1 : pre (m + 1) = if sq w i n = true then pre m ++ [n] else pre m := by
        rw [hpre]
        dsimp only
        rw [List.range_succ, List.map_append, List.filter_append, hn]
        by_cases h : sq w i (m + 1) = true
        · rw [if_pos h]; simp [h]
        · rw [if_neg h]; simp [h]
      have esub := cut_sub w i (2 * n)
      rw [show ((i : Int) + ((2 * n : Nat) : Int)) = (i : Int) + 2 * (n : Int) by omega] at esub
      have hslen : (sub w i (2 * n)).length = 2 * n := sub_len n3
      obtain ⟨L, hL⟩ : ∃ L, L = occTo w i ++ (pre m).map fun n => (sub w i (2 * n), i) := ⟨_, rfl⟩
      have hlen : L.length ≤ 1000000 := by
        have h3 := occTo_len (w := w) (m := i)
        have h4 : (pre m).length ≤ m := by
          rw [hpre]
          refine Nat.le_trans (List.length_filter_le _ _) ?_
          rw [List.length_map, List.length_range]
          exact Nat.le_refl _
        have h5 : i * w.length ≤ 999 * 1000 := Nat.mul_le_mul (by omega) hw
        rw [hL, List.length_append, List.length_map]
        omega
      have h1 := len_grp (l := L)
      have h2 := val_grp (l := L) (k := sub w i (2 * n))
      rw [← hL]
      show wSeq _ _ _ ((_ : AEnv).set 3 (.dat (.int ((m + 1 : Nat) : Int))))
      rw [← hn]
      refine ⟨.inl (by decide), ?_⟩
      dsimp only [wd, addD]
      rw [esub]
      have c1 : cutL ((sub w i (2 * n)).map PyData.int) none (some (n : Int)) = ((sub w i (2 * n)).take n).map .int := by rw [cut_map, cut_take]
      have c2 : cutL ((sub w i (2 * n)).map PyData.int) (some (n : Int)) none = ((sub w i (2 * n)).drop n).map .int := by rw [cut_map, cut_drop]
      have hq : PyData.eqv (.tuple (cutL ((sub w i (2 * n)).map PyData.int) none (some (n : Int)))) (.tuple (cutL ((sub w i (2 * n)).map PyData.int) (some (n : Int)) none)) = sq w i n := by
        rw [c1, c2, sq_iff n3]
        exact eqv_wd
      have o1 : okD (.tuple (cutL ((sub w i (2 * n)).map PyData.int) none (some (n : Int)))) = true := by rw [c1]; exact ok_wd _
      have o2 : okD (.tuple (cutL ((sub w i (2 * n)).map PyData.int) (some (n : Int)) none)) = true := by rw [c2]; exact ok_wd _
      refine ⟨o1, o2, ?_⟩
      rw [hq]
      refine ite2 (fun e => ?_) (fun e => ?_)
      · refine ⟨⟨_, rfl⟩, Nat.zero_le _, encS (grp L), kw (sub w i (2 * n)), rfl, (key_kw _).symm, small_len (by simp), ?_⟩
        erw [get_enc]
        refine ⟨?_, ⟨_, rfl⟩, encS (grp L), kw (sub w i (2 * n)), rfl, (key_kw _).symm, enc_lt (by omega), ?_⟩
        · rw [List.length_map]
          exact small_len (by simp; omega)
        · have e3 : (.list ((((lookA (grp L) (sub w i (2 * n))).getD []).map fun (p : Nat) => PyData.int p) ++ [.int i]) : PyData) = ps ((lookA (grp L) (sub w i (2 * n))).getD [] ++ [i]) := by simp [ps]
          refine hK' _ ⟨by omega, .dat (.int n), .dat (wd (sub w i (2 * n))), ?_⟩
          show [AV.dat (wd w), .own (.dic (.dict (encT (putP (encS (grp L)) (kw (sub w i (2 * n))) (.list ((((lookA (grp L) (sub w i (2 * n))).getD []).map fun (p : Nat) => PyData.int p) ++ [.int i])))))), .dat (.int i), _, _] = _
          rw [e3, put_enc nodup_grp, hpre1, if_pos e, List.map_append, ← List.append_assoc, ← hL, List.map_cons, List.map_nil, grp_snoc]
          rfl
      · refine hK' _ ⟨by omega, .dat (.int n), .dat (wd (sub w i (2 * n))), ?_⟩
        rw [hpre1, if_neg e, ← hL]
        rfl
    · obtain ⟨_, y, z, rfl⟩ := hI
      refine hK _ ⟨hi, .dat (.int i), y, z, ?_⟩
      rw [occTo_succ, hpre]
      rfl
  · obtain ⟨_, x, y, z, rfl⟩ := hI
    exact q
theorem dr_sub {w v : List Int} {n m : Nat} {k : Int} (h : Dr w n k) (hs : ∀ x ∈ v, x ∈ w) (hl : v.length ≤ m) : Dr v m k := ⟨hl, fun x hx => h.2 x (hs x hx)⟩
theorem dr_take {w : List Int} {n : Nat} {k : Int} (h : Dr w n k) (c : Nat) : Dr (w.take c) c k := dr_sub h (fun x hx => List.take_subset _ _ hx) (by rw [List.length_take]; omega)
theorem dr_append {w v : List Int} {n m N : Nat} {k : Int} (h : Dr w n k) (h' : Dr v m k) (hl : n + m ≤ N) : Dr (w ++ v) N k := ⟨by rw [List.length_append]; have := h.1; have := h'.1; omega, fun x hx => (List.mem_append.mp hx).elim (h.2 x) (h'.2 x)⟩
theorem dr_rep {w : List Int} {n : Nat} {k : Int} (h : Dr w n k) (c : Nat) : Dr (List.replicate c w).flatten (c * n) k := by
  refine ⟨?_, fun x hx => ?_⟩
  · rw [List.length_flatten, List.map_replicate, List.sum_replicate_nat]
    exact Nat.mul_le_mul (Nat.le_refl c) h.1
  · obtain ⟨v, hv, hx'⟩ := List.mem_flatten.mp hx
    rw [List.eq_of_mem_replicate hv] at hx'
    exact h.2 x hx'
theorem flat_map (c : Nat) (w : List Int) : (List.replicate c (w.map PyData.int)).flatten = ((List.replicate c w).flatten).map PyData.int := by
  rw [List.map_flatten, List.map_replicate]
/-- drawn letters -/
theorem paired_ints {p : PyData → PyData → Prop} {k : Int} (hp : ∀ d y, p d y → ∃ r : Int, y = .int r ∧ 0 ≤ r ∧ r < k) : ∀ {ds ys : List PyData}, Paired p ds ys → ∃ w : List Int, ys = w.map .int ∧ w.length = ds.length ∧ ∀ x ∈ w, 0 ≤ x ∧ x < k
  | _, _, .nil => ⟨[], rfl, rfl, fun x hx => by cases hx⟩
  | _, _, .cons h t => by
    obtain ⟨r, rfl, h1, h2⟩ := hp _ _ h
    obtain ⟨w, rfl, hl, hw⟩ := paired_ints hp t
    exact ⟨r :: w, rfl, by simp [hl], fun x hx => by
      rcases List.mem_cons.mp hx with rfl | hx
      · exact ⟨h1, h2⟩
      · exact hw x hx⟩
theorem pu_law_word : ∀ (a l : Addr) ds Q, ds.length = 2 → sp_law_word ds Q → W_law_word { nx := fun ρ => ρ[0]? = some (.own (.src a l)) ∧ Q .none, rt := fun d ρ => ρ[0]? = some (.own (.src a l)) ∧ Q d } (startA N_law_word (.own (.src a l) :: ds.map .dat)) := by
  rintro a l ds Q _ ⟨n, k, rfl, hn, k1, k2, q⟩
  refine ⟨a, l, rfl, rfl, rfl, _, rfl, by omega, fun m m0 hm => ?_⟩
  refine ⟨a, l, rfl, rfl, rfl, _, rfl, by decide, fun way y0 hy => ?_⟩
  obtain ⟨m, rfl⟩ : ∃ m' : Nat, m = m' := ⟨m.toNat, by omega⟩
  have hm' : m ≤ n := by omega
  refine ⟨s62 (by omega) (by omega), ?_⟩
  show wLcL _ _ _ _ _ (rangeL 0 _) [] _
  rw [rangeL_0 (n := m) (by omega)]
  refine lcL_each (fun _ y => ∃ r : Int, y = .int r ∧ 0 ≤ r ∧ r < k) (fun d hd Ky Kn h => ?_) (small_len (by simp; omega)) (fun ys hys => ?_)
  · exact ⟨a, l, rfl, rfl, rfl, _, rfl, by omega, fun r r0 hr => h _ _ ⟨r, rfl, r0, by omega⟩ rfl⟩
  obtain ⟨w, rfl, hwl, hw⟩ := paired_ints (fun _ _ h => h) hys
  rw [List.length_map, List.length_range] at hwl
  rw [List.nil_append]
  have hdr : Dr w m k := ⟨by omega, hw⟩
  -- way 0
  dsimp only [ownD, tupD]
  refine seq_inv (fun ρ => ∃ w x6, Dr w m k ∧ ρ = [.own (.src a l), .dat (.int n), .dat (.int k), .dat (.int m), .dat (.int way), .dat (wd w), x6, .unk, .unk]) (fun K hK => ?_) (fun ρ hI => ?_)
  · refine ⟨rfl, rfl, ite2 (fun e => ite2 (fun e2 => ?_) fun e2 => ?_) fun e => ite2 (fun z => by cases z) fun _ => hK _ ⟨w, .unk, hdr, rfl⟩⟩
    · have e2 : (1 : Int) < m := of_decide_eq_true e2
      refine ⟨a, l, rfl, rfl, rfl, _, rfl, by omega, fun r r0 hr => ?_⟩
      obtain ⟨r, rfl⟩ : ∃ r' : Nat, r = r' := ⟨r.toNat, by omega⟩
      have c1 : cutL (w.map PyData.int) none (some (1 + (r : Int))) = (w.take (1 + r)).map .int := by
        rw [cut_map, show (1 + (r : Int)) = ((1 + r : Nat) : Int) by omega, cut_take]
      dsimp only [wd, addD]
      rw [c1]
      have d1 : Dr (w.take (1 + r)) m k := dr_sub hdr (fun x hx => List.take_subset _ _ hx) (by rw [List.length_take]; omega)
      refine ⟨⟨by omega, by omega, by rw [List.length_map]; have := d1.1; omega⟩, ?_⟩
      have c3 : cutL (List.replicate (m : Int).toNat ((w.take (1 + r)).map PyData.int)).flatten none (some (m : Int)) = ((List.replicate m (w.take (1 + r))).flatten.take m).map .int := by
        rw [Int.toNat_natCast, flat_map, cut_map, cut_take]
      refine hK _ ⟨_, .dat (wd (w.take (1 + r))), dr_take (dr_rep d1 m) m, ?_⟩
      show [_, _, _, _, _, AV.dat (.tuple (cutL (List.replicate (m : Int).toNat ((w.take (1 + r)).map PyData.int)).flatten none (some (m : Int)))), _, _, _] = _
      rw [c3]
      rfl
    · exact hK _ ⟨w, .unk, hdr, rfl⟩
  clear hdr hw hwl w hys
  obtain ⟨w, x6, hdr, rfl⟩ := hI
  -- way 1
  refine seq_inv (fun ρ => ∃ w x6, Dr w m k ∧ ρ = [.own (.src a l), .dat (.int n), .dat (.int k), .dat (.int m), .dat (.int way), .dat (wd w), x6, .unk, .unk]) (fun K hK => ?_) (fun ρ hI => ?_)
  · refine ⟨rfl, rfl, ite2 (fun e => ite2 (fun e2 => ?_) fun e2 => ?_) fun e => ite2 (fun z => by cases z) fun _ => hK _ ⟨w, x6, hdr, rfl⟩⟩
    · have e2 : (1 : Int) < m := of_decide_eq_true e2
      have c1 : cutL (w.map PyData.int) none (some ((m : Int) / 2)) = (w.take (m / 2)).map .int := by
        rw [cut_map, show ((m : Int) / 2) = ((m / 2 : Nat) : Int) by omega, cut_take]
      have c2 : cutL (w.map PyData.int) none (some ((m : Int) % 2)) = (w.take (m % 2)).map .int := by
        rw [cut_map, show ((m : Int) % 2) = ((m % 2 : Nat) : Int) by omega, cut_take]
      refine ⟨⟨by decide, by decide⟩, ?_⟩
      dsimp only [wd, addD]
      rw [c1]
      have d1 : Dr (w.take (m / 2)) (m / 2) k := dr_sub hdr (fun x hx => List.take_subset _ _ hx) (by rw [List.length_take]; omega)
      have d2 : Dr (w.take (m % 2)) (m % 2) k := dr_sub hdr (fun x hx => List.take_subset _ _ hx) (by rw [List.length_take]; omega)
      refine ⟨⟨by decide, by decide, by rw [List.length_map]; have := d1.1; omega⟩, by decide, ?_⟩
      dsimp only [addD]
      rw [c2, show (2 : Int).toNat = 2 from rfl, flat_map, ← List.map_append]
      have d3 := dr_rep d1 2
      refine ⟨small_len ?_, hK _ ⟨_, x6, dr_append d3 d2 (by omega), rfl⟩⟩
      have h1 := d3.1
      have h2 := d2.1
      rw [List.length_map, List.length_map]
      omega
    · exact hK _ ⟨w, x6, hdr, rfl⟩
  clear hdr
  obtain ⟨w, x6, hdr, rfl⟩ := hI
  -- way 2
  refine seq_inv (fun ρ => ∃ w x6, Dr w m k ∧ ρ = [.own (.src a l), .dat (.int n), .dat (.int k), .dat (.int m), .dat (.int way), .dat (wd w), x6, .unk, .unk]) (fun K hK => ?_) (fun ρ hI => ?_)
  · refine ⟨rfl, rfl, ite2 (fun e => ?_) fun e => hK _ ⟨w, x6, hdr, rfl⟩⟩
    refine lcL_map (fun d => match d with | .int i => .int (if 1 < i then 1 else i) | d => d) (fun d hd Ky Kn h => ?_) (small_len (by rw [List.length_map]; have := hdr.1; omega)) ?_
    · obtain ⟨i, hi, rfl⟩ := List.mem_map.mp hd
      exact h _ rfl
    · rw [List.map_map]
      refine hK _ ⟨w.map fun i => if 1 < i then 1 else i, x6, ⟨by rw [List.length_map]; exact hdr.1, fun x hx => ?_⟩, ?_⟩
      · obtain ⟨i, hi, rfl⟩ := List.mem_map.mp hx
        have := hdr.2 i hi
        split <;> omega
      · unfold wd
        rw [List.map_map]
        rfl
  obtain ⟨w, x6, hdr, rfl⟩ := hI
  exact ⟨rfl, q w ⟨by have := hdr.1; omega, hdr.2⟩⟩
def pell : Nat → Nat
  | 0 => 1
  | 1 => 2
  | i + 2 => 2 * pell (i + 1) + pell i
theorem dr_mono {w : List Int} {n m : Nat} {k : Int} (h : Dr w n k) (hl : n ≤ m) : Dr w m k := ⟨Nat.le_trans h.1 hl, h.2⟩
theorem pu_law_square_word : ∀ (a l : Addr) ds Q, ds.length = 1 → sp_law_square_word ds Q → W_law_square_word { nx := fun ρ => ρ[0]? = some (.own (.src a l)) ∧ Q .none, rt := fun d ρ => ρ[0]? = some (.own (.src a l)) ∧ Q d } (startA N_law_square_word (.own (.src a l) :: ds.map .dat)) := by
  rintro a l ds Q _ ⟨n, rfl, hn, q⟩
  refine ⟨a, l, rfl, rfl, rfl, _, rfl, by decide, fun way y0 hy => ?_⟩
  refine ⟨rfl, rfl, ite2 (fun e => ?_) (fun e => ?_)⟩
  · -- squares of squares
    refine ⟨small_len (by decide), s62 (by decide) (by decide), ?_⟩
    show wForL _ _ _ _ (rangeL 0 _) _
    rw [rangeL_0 (n := 6) (by decide)]
    refine forL_range _ _ (fun i ρ => i ≤ 6 ∧ ∃ w x4, Dr w (2 ^ (i + 1) - 1) 3 ∧ ρ = [.own (.src a l), .dat (.int n), .dat (.int way), .dat (wd w), x4, .unk, .unk]) (fun i ρ hi hI K hK => ?_) (fun ρ hI => ?_) ⟨Nat.zero_le _, [0], .unk, ⟨by decide, by decide⟩, rfl⟩
    · obtain ⟨_, w, x4, hd, rfl⟩ := hI
      have p1 : ∀ i < 6, 2 ^ (i + 1) ≤ 64 ∧ 2 ^ (i + 2) = 2 * 2 ^ (i + 1) ∧ 2 ≤ 2 ^ (i + 1) := by decide
      obtain ⟨p1, p2, p3⟩ := p1 i hi
      have hwl := hd.1
      have hl : (w.map PyData.int).length = w.length := List.length_map _
      refine ⟨a, l, rfl, rfl, rfl, _, rfl, by omega, fun r r0 hr => ?_⟩
      obtain ⟨r, rfl⟩ : ∃ r' : Nat, r = r' := ⟨r.toNat, by omega⟩
      have c1 : cutL (w.map PyData.int) none (some (1 + (r : Int))) = (w.take (1 + r)).map .int := by
        rw [cut_map, show (1 + (r : Int)) = ((1 + r : Nat) : Int) by omega, cut_take]
      dsimp only [wd, addD]
      rw [c1, ← List.map_append]
      have d1 : Dr (w.take (1 + r)) (2 ^ (i + 1) - 1) 3 := dr_sub hd (fun x hx => List.take_subset _ _ hx) (by rw [List.length_take]; omega)
      have d2 := dr_append hd d1 (N := 2 ^ (i + 2) - 2) (by omega)
      obtain ⟨v, hv⟩ : ∃ v, v = w ++ w.take (1 + r) := ⟨_, rfl⟩
      rw [← hv] at d2 ⊢
      have h1 := d1.1
      refine ⟨small_len (by rw [hl, List.length_map]; omega), ?_⟩
      refine ⟨a, l, rfl, rfl, rfl, _, rfl, by decide, fun c c0 hc => ⟨small_len (show 1 ≤ 16777216 by decide), a, l, rfl, rfl, rfl, _, rfl, by decide, fun t t0 ht => ?_⟩⟩
      obtain ⟨t, rfl⟩ : ∃ t' : Nat, t = t' := ⟨t.toNat, by omega⟩
      have dc : Dr [c] 1 3 := ⟨by simp, fun x hx => by rw [List.mem_singleton.mp hx]; omega⟩
      have d3 := dr_mono (dr_rep dc t) (m := 1) (by omega)
      have e1 : (List.replicate (t : Int).toNat [PyData.int c]).flatten = ((List.replicate t [c]).flatten).map .int := by
        rw [Int.toNat_natCast, ← flat_map]; rfl
      refine ⟨⟨by omega, by omega, (show 1 ≤ 1000 by decide)⟩, ?_⟩
      dsimp only [addD]
      rw [e1, ← List.map_append]
      have h2 := d2.1
      have h3 := d3.1
      refine ⟨small_len (by rw [List.length_map, List.length_map]; omega), hK _ ⟨hi, _, .dat (.int i), dr_append d2 d3 (by omega), rfl⟩⟩
    · obtain ⟨_, w, x4, hd, rfl⟩ := hI
      have c1 : cutL (w.map PyData.int) none (some (n : Int)) = (w.take n).map .int := by rw [cut_map, cut_take]
      show _ ∧ Q (.tuple (cutL (w.map PyData.int) none (some (n : Int))))
      rw [c1]
      exact ⟨rfl, q _ (dr_take hd n)⟩
  · refine ⟨rfl, rfl, ite2 (fun e2 => ?_) (fun e2 => ?_)⟩
    · -- steps of two words
      refine ⟨small_len (show 2 ≤ 16777216 by decide), small_len (show 1 ≤ 16777216 by decide), small_len (show 2 ≤ 16777216 by decide), rfl, rfl, s62 (by decide) (by decide), ?_⟩
      show wForL _ _ _ _ (rangeL 0 _) _
      rw [rangeL_0 (n := 6) (by decide)]
      refine forL_range _ _ (fun i ρ => i ≤ 6 ∧ ∃ u v x3 x4, Dr u (pell (i + 1)) 3 ∧ Dr v (pell i) 3 ∧ ρ = [.own (.src a l), .dat (.int n), .dat (.int way), x3, x4, .dat (wd u), .dat (wd v)]) (fun i ρ hi hI K hK => ?_) (fun ρ hI => ?_) ⟨Nat.zero_le _, [0, 1], [0], .unk, .unk, ⟨by decide, by decide⟩, ⟨by decide, by decide⟩, rfl⟩
      · obtain ⟨_, u, v, x3, x4, hu, hv, rfl⟩ := hI
        have p1 : ∀ i < 6, pell (i + 1) ≤ 200 ∧ pell i ≤ 200 := by decide
        obtain ⟨p1, p2⟩ := p1 i hi
        refine ⟨a, l, rfl, rfl, rfl, _, rfl, by decide, fun r r0 hr => ?_⟩
        have hr : r < 2 := by omega
        obtain ⟨r, rfl⟩ : ∃ r' : Nat, r = r' := ⟨r.toNat, by omega⟩
        have d1 := dr_mono (dr_rep hu (1 + r)) (m := 2 * pell (i + 1)) (Nat.mul_le_mul_right _ (by omega))
        have e1 : (List.replicate (1 + (r : Int)).toNat (u.map PyData.int)).flatten = ((List.replicate (1 + r) u).flatten).map .int := by
          rw [show (1 + (r : Int)).toNat = 1 + r by omega, flat_map]
        refine ⟨⟨by omega, by omega, by rw [List.length_map]; have := hu.1; omega⟩, ?_⟩
        dsimp only [wd, addD]
        rw [e1]
        have h1 := d1.1
        have h2 := hv.1
        refine ⟨small_len (by rw [List.length_map, List.length_map]; omega), hK _ ⟨hi, _, _, x3, .dat (.int i), dr_append d1 hv (by show _ ≤ 2 * pell (i + 1) + pell i; omega), hu, ?_⟩⟩
        show [_, _, _, _, _, AV.dat (.tuple (((List.replicate (1 + r) u).flatten.map PyData.int) ++ v.map PyData.int)), _] = _
        rw [← List.map_append]
        rfl
      · obtain ⟨_, u, v, x3, x4, hu, hv, rfl⟩ := hI
        refine ⟨a, l, rfl, rfl, rfl, _, rfl, by omega, fun r r0 hr => ?_⟩
        obtain ⟨r, rfl⟩ : ∃ r' : Nat, r = r' := ⟨r.toNat, by omega⟩
        have c1 : cutL (u.map PyData.int) none (some (r : Int)) = (u.take r).map .int := by rw [cut_map, cut_take]
        show _ ∧ Q (.tuple (cutL (u.map PyData.int) none (some (r : Int))))
        rw [c1]
        exact ⟨rfl, q _ (dr_mono (dr_take hu r) (by omega))⟩
    · exact ⟨a, l, rfl, rfl, rfl, n, 3, rfl, hn, by decide, by decide, fun w hw => ⟨rfl, q w hw⟩⟩
end LW

set_option Elab.async false
set_option linter.all false
set_option maxRecDepth 100000
set_option maxHeartbeats 4000000
namespace LW
open PySem PySem.Spec PyProof.Rows L2 AL
/-! ### what can be shown -/
theorem weight_small {i : Int} (h0 : 0 ≤ i) (h : i < 1024) : (PyData.int i).weight ≤ 10 := by
  simp only [PyData.weight]
  split
  · omega
  · have : i.natAbs.log2 ≤ 9 := log2_le (by omega)
    omega
def Lo (l : List Int) (m : Nat) : Prop := l.length ≤ m ∧ ∀ x ∈ l, 0 ≤ x ∧ x < 1024
theorem lo_dr {w : List Int} {n : Nat} {k : Int} (h : Dr w n k) (hk : k ≤ 1024) : Lo w n := ⟨h.1, fun x hx => ⟨(h.2 x hx).1, by have := (h.2 x hx).2; omega⟩⟩
theorem lo_sm {l : List Int} {m : Nat} (h : Lo l m) : Sm l := fun x hx => by have := h.2 x hx; omega
theorem weight_lo {l : List Int} {m : Nat} (h : Lo l m) : (wd l).weight ≤ m * 11 := by
  have := weightAll_le (xs := l.map PyData.int) (n := 10) fun x hx => by
    obtain ⟨i, hi, rfl⟩ := List.mem_map.mp hx
    exact weight_small (h.2 i hi).1 (h.2 i hi).2
  have h2 := h.1
  have : (wd l).weight ≤ l.length * 11 := by simpa [wd, PyData.weight] using this
  omega
theorem shw_rows {ls : List (List Int)} {m : Nat} (h : ∀ l ∈ ls, Lo l m) (hl : ls.length * (m * 11 + 1) ≤ 1000000) : shwD (.tuple (ls.map wd)) = true := by
  refine shwD_fine ?_ ?_ ?_
  · show fineL (ls.map wd) = true
    refine fineL_iff.mpr fun x hx => ?_
    obtain ⟨l, hl, rfl⟩ := List.mem_map.mp hx
    exact fine_wd (lo_sm (h l hl))
  · have h2 : PyData.depthAll (ls.map wd) ≤ 1 := depthAll_le fun x hx => by
      obtain ⟨y, _, rfl⟩ := List.mem_map.mp hx
      rw [depth_wd]
      exact Nat.le_refl 1
    show PyData.depthAll (ls.map wd) + 1 ≤ 64
    exact Nat.le_trans (Nat.add_le_add_right h2 1) (by decide)
  · have h3 := weightAll_le (xs := ls.map wd) (n := m * 11) fun x hx => by
      obtain ⟨y, hy, rfl⟩ := List.mem_map.mp hx
      exact weight_lo (h y hy)
    rw [List.length_map] at h3
    show PyData.weightAll (ls.map wd) ≤ 1000000
    exact Nat.le_trans h3 hl
theorem shw_row {l : List Int} {m : Nat} (h : Lo l m) (hm : m ≤ 20000) : shwD (wd l) = true := shw_wd (lo_sm h) (by have := h.1; omega)
theorem shw_bool (b : Bool) : shwD (.bool b) = true := by cases b <;> decide +kernel
theorem ite_rep {d e : PyData} {A B : Prop} (h : d = e) (b : B) : if (!decide (d.shown = e.shown)) = true then A else B := by
  subst h
  rw [decide_eq_true rfl]
  exact b
theorem nd_wd (l : List Nat) : (PyData.tuple (nd l)) = wd (l.map fun (n : Nat) => (n : Int)) := by
  unfold nd wd
  rw [List.map_map]
  rfl
/-! ### squares at a place, from the dict -/
theorem sub_mem {w : List Int} {p l : Nat} : ∀ x ∈ sub w p l, x ∈ w := fun x hx => List.drop_subset _ _ (List.take_subset _ _ hx)
theorem keys_len {w : List Int} (h : w.length ≤ 40) : (standsD w).length ≤ 1600 := by
  have h1 := len_grp (l := occTo w w.length)
  have h2 := occTo_len (w := w) (m := w.length)
  have h3 : w.length * w.length ≤ 40 * 40 := Nat.mul_le_mul h h
  exact Nat.le_trans h1 (by omega)
theorem key_lo {w : List Int} {s : List Int} {n : Nat} {k : Int} (h : Dr w n k) (hs : s ∈ (standsD w).map (·.1)) : Dr s n k := by
  obtain ⟨p, m, h1, h2, _, rfl⟩ := key_stands hs
  exact ⟨by rw [sub_len h1]; have := h.1; omega, fun x hx => h.2 x (sub_mem x hx)⟩
theorem look_stands {w : List Int} {z : List Int × List Nat} (h : z ∈ standsD w) : lookP (encS (standsD w)) (kw z.1) = some (ps z.2) := by
  rw [look_enc]
  have : lookA (standsD w) z.1 = some z.2 := mem_look nodup_grp h
  rw [this]
  rfl
theorem place_iff {w : List Int} {x : List Int × List Nat} (h : x ∈ standsD w) (p : Nat) : p ∈ x.2 ↔ (x.1, p) ∈ occTo w w.length := by
  have hl := mem_look nodup_grp (k := x.1) (v := x.2) (d := standsD w) h
  unfold standsD at hl
  rw [look_grp] at hl
  split at hl
  · cases hl
  · have hx := Option.some.inj hl
    rw [← hx, List.mem_map]
    constructor
    · rintro ⟨y, hy, rfl⟩
      obtain ⟨hy, hk⟩ := List.mem_filter.mp hy
      rw [← of_decide_eq_true hk]
      exact hy
    · intro hy
      exact ⟨_, List.mem_filter.mpr ⟨hy, by simp⟩, rfl⟩
/-- the halves of the squares that stand at p, as the dict has them -/
def halves (w : List Int) (p : Nat) : List Nat := ((standsD w).filter fun x => decide (p ∈ x.2)).map fun x => x.1.length / 2
theorem mem_halves {w : List Int} {p n : Nat} (hp : p < w.length) : n ∈ halves w p ↔ n ∈ sqN w p := by
  unfold halves
  rw [List.mem_map]
  constructor
  · rintro ⟨x, hx, rfl⟩
    obtain ⟨hx, hpx⟩ := List.mem_filter.mp hx
    have hpx := (place_iff hx p).mp (of_decide_eq_true hpx)
    obtain ⟨_, n, hn, e⟩ := mem_occTo.mp hpx
    have h3 := (of_decide_eq_true ((mem_sqN (by omega)).mp hn).2).1
    rw [e, sub_len h3, Nat.mul_div_cancel_left _ (by decide)]
    exact hn
  · intro hn
    have h3 := (of_decide_eq_true ((mem_sqN (by omega)).mp hn).2).1
    have ho : (sub w p (2 * n), p) ∈ occTo w w.length := mem_occTo.mpr ⟨hp, n, hn, rfl⟩
    obtain ⟨x, hx, e⟩ := List.mem_map.mp (mem_grp.mpr ⟨p, ho⟩)
    refine ⟨x, List.mem_filter.mpr ⟨hx, decide_eq_true ((place_iff hx p).mpr ?_)⟩, ?_⟩
    · rw [e]; exact ho
    · rw [e, sub_len h3, Nat.mul_div_cancel_left _ (by decide)]
theorem nodup_map_on {α β : Type} {f : α → β} : ∀ {l : List α}, l.Nodup → (∀ x ∈ l, ∀ y ∈ l, f x = f y → x = y) → (l.map f).Nodup
  | [], _, _ => List.nodup_nil
  | a :: l, nd, h => by
    obtain ⟨na, nd⟩ := List.nodup_cons.mp nd
    rw [List.map_cons]
    refine List.nodup_cons.mpr ⟨fun hm => ?_, nodup_map_on nd fun x hx y hy => h x (List.mem_cons_of_mem _ hx) y (List.mem_cons_of_mem _ hy)⟩
    obtain ⟨y, hy, e⟩ := List.mem_map.mp hm
    exact na (h a List.mem_cons_self y (List.mem_cons_of_mem _ hy) e.symm ▸ hy)
theorem nodup_of_map {α β : Type} {f : α → β} : ∀ {l : List α}, (l.map f).Nodup → l.Nodup
  | [], _ => List.nodup_nil
  | a :: l, h => by
    rw [List.map_cons] at h
    obtain ⟨na, nd⟩ := List.nodup_cons.mp h
    exact List.nodup_cons.mpr ⟨fun z => na (List.mem_map.mpr ⟨a, z, rfl⟩), nodup_of_map nd⟩
theorem nodup_halves {w : List Int} {p : Nat} (hp : p < w.length) : (halves w p).Nodup := by
  have nd0 : (standsD w).Nodup := nodup_of_map (f := (·.1)) nodup_grp
  refine nodup_map_on (nd0.filter _) fun x hx y hy e => ?_
  obtain ⟨hx, hpx⟩ := List.mem_filter.mp hx
  obtain ⟨hy, hpy⟩ := List.mem_filter.mp hy
  obtain ⟨_, n, hn, ex⟩ := mem_occTo.mp ((place_iff hx p).mp (of_decide_eq_true hpx))
  obtain ⟨_, m, hm, ey⟩ := mem_occTo.mp ((place_iff hy p).mp (of_decide_eq_true hpy))
  have h3 := (of_decide_eq_true ((mem_sqN (by omega)).mp hn).2).1
  have h4 := (of_decide_eq_true ((mem_sqN (by omega)).mp hm).2).1
  rw [ex, ey, sub_len h3, sub_len h4, Nat.mul_div_cancel_left _ (by decide), Nat.mul_div_cancel_left _ (by decide)] at e
  subst e
  have e1 : x.1 = y.1 := ex.trans ey.symm
  have l1 := mem_look nodup_grp (k := x.1) (v := x.2) (d := standsD w) hx
  have l2 := mem_look nodup_grp (k := y.1) (v := y.2) (d := standsD w) hy
  rw [e1, l2] at l1
  exact Prod.ext e1 (Option.some.inj l1).symm
theorem pw_sqN {w : List Int} {p : Nat} : (sqN w p).Pairwise (· < ·) := by
  unfold sqN
  refine List.Pairwise.filter _ ?_
  rw [List.pairwise_map]
  exact List.pairwise_lt_range.imp (fun h => by omega)
theorem perm_nodup {α : Type} [DecidableEq α] : ∀ {l m : List α}, l.Nodup → m.Nodup → (∀ x, x ∈ l ↔ x ∈ m) → l.Perm m
  | [], m, _, _, h => by
    have : m = [] := List.eq_nil_iff_forall_not_mem.mpr fun x hx => by simpa using (h x).mpr hx
    rw [this]
  | a :: l, m, nd, nm, h => by
    obtain ⟨na, nd⟩ := List.nodup_cons.mp nd
    have ha : a ∈ m := (h a).mp List.mem_cons_self
    have hp := List.perm_cons_erase ha
    refine (List.Perm.cons a (perm_nodup nd (nm.erase a) fun x => ?_)).trans hp.symm
    rw [nm.mem_erase_iff]
    constructor
    · intro hx
      exact ⟨fun e => na (e ▸ hx), (h x).mp (List.mem_cons_of_mem _ hx)⟩
    · rintro ⟨h1, h2⟩
      rcases List.mem_cons.mp ((h x).mpr h2) with e | hx
      · exact absurd e h1
      · exact hx
theorem sorted_halves {w : List Int} {p : Nat} (hp : p < w.length) : srt ((halves w p).map fun (n : Nat) => (n : Int)) = (sqN w p).map fun (n : Nat) => (n : Int) := by
  refine srt_eq ?_ ?_
  · refine List.Perm.map _ (perm_nodup ?_ (nodup_halves hp) fun n => (mem_halves hp).symm)
    exact pw_sqN.imp (fun h e => by omega)
  · rw [List.pairwise_map]
    exact pw_sqN.imp (fun h => by omega)
theorem far_succ {w : List Int} {n p f : Nat} (h : f ≤ far w n p) : f + 1 ≤ far w n p ↔ ∃ x, w[p + f]? = some x ∧ w[p + n + f]? = some x := by
  have key : ∀ (f : Nat) (a b : List Int), f ≤ lcp a b → (f + 1 ≤ lcp a b ↔ ∃ x, a[f]? = some x ∧ b[f]? = some x) := by
    intro f
    induction f with
    | zero =>
      intro a b _
      cases a with
      | nil => simp [lcp]
      | cons x a =>
        cases b with
        | nil => simp [lcp]
        | cons y b =>
          unfold lcp
          by_cases e : x = y
          · simp [e]
          · simp only [e, if_false]
            constructor
            · intro h; omega
            · rintro ⟨z, h1, h2⟩
              simp at h1 h2
              exact absurd (h1.trans h2.symm) e
    | succ f ih =>
      intro a b h
      cases a with
      | nil => simp [lcp] at h
      | cons x a =>
        cases b with
        | nil => simp [lcp] at h
        | cons y b =>
          unfold lcp at h ⊢
          by_cases e : x = y
          · rw [if_pos e] at h ⊢
            have := ih a b (by omega)
            simp only [List.getElem?_cons_succ]
            rw [← this]
            omega
          · rw [if_neg e] at h
            omega
  have := key f (w.drop p) (w.drop (p + n)) h
  rw [List.getElem?_drop, List.getElem?_drop] at this
  exact this
theorem any_nd (l : List Nat) (p : Nat) : ((nd l).any fun z => PyData.eqv z (.int (p : Int))) = decide (p ∈ l) := by
  induction l with
  | nil => rfl
  | cons x l ih =>
    show (PyData.eqv (.int (x : Int)) (.int (p : Int)) || (nd l).any fun z => PyData.eqv z (.int (p : Int))) = _
    rw [ih, eqv_int, Bool.eq_iff_iff]
    simp only [Bool.or_eq_true, decide_eq_true_eq, List.mem_cons]
    constructor
    · rintro (h | h)
      · exact .inl (by omega)
      · exact .inr h
    · rintro (h | h)
      · exact .inl (by omega)
      · exact .inr h
theorem ok_nd (l : List Nat) : okD (.list (nd l)) = true := by
  have := ok_list_ints (l.map fun (n : Nat) => (n : Int))
  rw [List.map_map] at this
  exact this
/-- the halves, as the comprehension makes them -/
theorem halves_nd {w : List Int} {p : Nat} {b : PyData → Bool} {y : PyData → PyData} (hb : ∀ z ∈ standsD w, b (wd z.1) = decide (p ∈ z.2)) (hy : ∀ z ∈ standsD w, y (wd z.1) = .int ((z.1.length / 2 : Nat) : Int)) :
    ((((standsD w).map (·.1)).map wd).filter b).map y = nd (halves w p) := by
  unfold halves
  suffices h : ∀ d : List (List Int × List Nat), (∀ z ∈ d, z ∈ standsD w) → (((d.map (·.1)).map wd).filter b).map y = nd ((d.filter fun x => decide (p ∈ x.2)).map fun x => x.1.length / 2) from h _ fun _ h => h
  intro d
  induction d with
  | nil => intro _; rfl
  | cons z d ih =>
    intro h
    have ih := ih fun x hx => h x (List.mem_cons_of_mem _ hx)
    have hz := h z List.mem_cons_self
    rw [List.map_cons, List.map_cons, List.filter_cons, List.filter_cons, hb z hz]
    split
    · rw [List.map_cons, List.map_cons, ih, hy z hz]; rfl
    · exact ih
/-- law: 0 script, 1 source, 2 lap, 3 word, 4 n, 5 kept, 6 stands, 7 length, 8 due, 9 place, 10 far, 11 last, 12 square, 13 lengths -/
abbrev Nlaw : List Str := ["script", "source", "lap", "word", "n", "kept", "stands", "length", "due", "place", "far", "last", "square", "lengths"]
def Wlaw : WS :=
 (wSeq (wFor (wiR1 (wCons (wC (.int 4)) wNil)) (gN 2) (wSeq (wSet 3 (wCallS 1 1 sp_law_square_word (wCons (wBin ixD (wFz (wLst (wCons (wC (.int 8)) (wCons (wC (.int 16)) (wCons (wC (.int 24)) (wCons (wC (.int 40)) wNil)))))) (wVar 2)) wNil)))
 (wSeq (wPar3 4 5 6 (wmDat (wUn lenD (wVar 3)) (wmDat (wUn reprD (wVar 3)) (wmDat (wCall 1 sp_law_stands (wCons (wVar 3) wNil)) wmNil))))
 (wSeq (wIf (wtB (wBin neD (wUn reprD (wCall 1 spall_squares (wCons (wVar 3) wNil))) (wUn reprD (wUn tupD (wFz (wUnO (sortKD dkT) (wVar 6))))))) (wRet (wC (.bool false))) wNext)
 (wSeq (wIf (wtB (wBin neD (wUn reprD (wCall 1 spis_without_squares (wCons (wVar 3) wNil))) (wUn reprD (wIsNil dkT (wVar 6))))) (wRet (wC (.bool false))) wNext)
 (wSeq (wPar 7 8 (wmDat (wBin addD (wC (.int 1)) (wCallS 1 1 sp_law_pick (wCons (wBin addD (wVar 4) (wC (.int 1))) wNil))) (wmOwn (wLst wNil) wmNil)))
 (wSeq (wFor (wiR1 (wCons (wVar 4) wNil)) (gN 9) (wSeq (wSet 10 (wC (.int 0)))
 (wSeq (wWhile (wtAnd (wtB (wBin ltD (wBin addD (wBin addD (wVar 9) (wVar 10)) (wVar 7)) (wVar 4))) (wtB (wBin eqD (wBin ixD (wVar 3) (wBin addD (wVar 9) (wVar 10))) (wBin ixD (wVar 3) (wBin addD (wBin addD (wVar 9) (wVar 10)) (wVar 7)))))) (wSet 10 (wBin addD (wVar 10) (wC (.int 1)))) [])
 (wApp 8 (wVar 10)))) [])
 (wSeq (wIf (wtB (wBin neD (wUn reprD (wCall 2 splook_ahead (wCons (wVar 3) (wCons (wVar 7) wNil)))) (wUn reprD (wTupV 8)))) (wRet (wC (.bool false))) wNext)
 (wSeq (wSetO 11 (wLcs (wiR1 (wCons (wVar 4) wNil)) (gN 9) wYes [9]))
 (wSeq (wFor (wiK dkT (wVar 6)) (gN 12) (wAppIx 11 (wBin ixD (wBin (dgetD dkT) (wVar 6) (wVar 12)) (wNeg (wC (.int 1)))) (wBin fdivD (wUn lenD (wVar 12)) (wC (.int 2)))) [])
 (wSeq (wIf (wtB (wBin neD (wUn reprD (wCall 1 splast_lengths (wCons (wVar 3) wNil))) (wUn reprD (wUn tupD (wFz (wLc (wiL (wVar 11)) (gN 13) wYes (wUn tupD (wFz (wUnO sortD (wVar 13)))) [13])))))) (wRet (wC (.bool false))) wNext)
 (wSeq (wFor (wiL (wSl (wCallS 1 1 sp_law_any_order (wCons (wFz (wRg1 (wVar 4))) wNil)) wNo (wPart (wC (.int 6))))) (gN 9) (wSeq (wSet 13 (wFz (wUnO sortD (wFz (wLc (wiK dkT (wVar 6)) (gN 12) (wtB (wBin (inD false) (wVar 9) (wBin (dgetD dkT) (wVar 6) (wVar 12)))) (wBin fdivD (wUn lenD (wVar 12)) (wC (.int 2))) [12])))))
 (wSeq (wIf (wtB (wBin neD (wUn reprD (wCall 2 spsquares_at (wCons (wVar 3) (wCons (wVar 9) wNil)))) (wUn reprD (wUn tupD (wVar 13))))) (wRet (wC (.bool false))) wNext)
 (wIf (wtB (wBin neD (wUn reprD (wCall 3 spstands_at (wCons (wVar 3) (wCons (wVar 9) (wCons (wVar 7) wNil))))) (wUn reprD (wBin (inD false) (wVar 7) (wVar 13))))) (wRet (wC (.bool false))) wNext))) [])
 (wIf (wtB (wBin neD (wUn reprD (wVar 3)) (wVar 5))) (wRet (wC (.bool false))) wNext)))))))))))) [])
 (wRet (wAndV (wBin eqD (wCall 1 spall_squares (wCons (wTup (wCons (wC (.int 0)) (wCons (wC (.int 0)) (wCons (wC (.int 0)) wNil)))) wNil)) (wTup (wCons (wTup (wCons (wC (.int 0)) (wCons (wC (.int 0)) wNil))) wNil))) (wBin eqD (wCall 1 spall_squares (wCons (wTup wNil) wNil)) (wTup wNil)))))
def halfD : PyData → PyData
  | .tuple xs => .int ((xs.length : Int) / 2)
  | _ => .none
theorem pick_size {i : Nat} (h : i < 4) : ∃ N : Nat, N ≤ 40 ∧ atI [PyData.int 8, .int 16, .int 24, .int 40] (i : Int) = some (.int N) := by
  match i, h with
  | 0, _ => exact ⟨8, by decide, rfl⟩
  | 1, _ => exact ⟨16, by decide, rfl⟩
  | 2, _ => exact ⟨24, by decide, rfl⟩
  | 3, _ => exact ⟨40, by decide, rfl⟩
theorem pulaw : ∀ (a l : Addr), Wlaw { nx := fun _ => False, rt := fun d _ => d = .bool true } (.unk :: .own (.src a l) :: List.replicate (Nlaw.length - 2) .unk) := by
  intro a l
  refine ⟨s62 (by decide) (by decide), ?_⟩
  show wForL _ _ _ _ (rangeL 0 _) _
  rw [rangeL_0 (n := 4) (by decide)]
  refine forL_range _ _ (fun i ρ => ∃ x2 x3 x4 x5 x6 x7 x8 x9 x10 x11 x12 x13, ρ = [.unk, .own (.src a l), x2, x3, x4, x5, x6, x7, x8, x9, x10, x11, x12, x13]) (fun i ρ hi hI K hK => ?_) (fun ρ hI => ?_) ⟨_, _, _, _, _, _, _, _, _, _, _, _, rfl⟩
  · obtain ⟨x2, x3, x4, x5, x6, x7, x8, x9, x10, x11, x12, x13, rfl⟩ := hI
    obtain ⟨N, hN, hat⟩ := pick_size hi
    refine ⟨a, l, rfl, small_len (show 4 ≤ 16777216 by decide), _, hat, rfl, rfl, N, rfl, by omega, fun w hw => ?_⟩
    have hwl : w.length ≤ 40 := by have := hw.1; omega
    have hl : (w.map PyData.int).length = w.length := List.length_map _
    have hlo : Lo w 40 := lo_dr (dr_mono hw hN) (by decide)
    have hshw : shwD (wd w) = true := shw_row hlo (by decide)
    obtain ⟨S, hS⟩ : ∃ S, S = standsD w := ⟨_, rfl⟩
    have hkeys := keys_len hwl
    have hsok : srtOk ((standsD w).map (·.1) |>.map wd) := srt_wds fun s hs => key_ne hs
    refine ⟨hshw, rfl, w, rfl, by omega, ?_⟩
    -- all squares
    have e1 : sortedBy ((encS (standsD w)).map fun p => dkT.key p.1) = (srtW ((standsD w).map (·.1))).map wd := by rw [keys_enc, sorted_wds]
    have s1 : shwD (.tuple ((srtW ((standsD w).map (·.1))).map wd)) = true := shw_rows (m := 40) (fun s hs => lo_dr (dr_mono (key_lo hw ((srtW_perm _).subset hs)) hN) (by decide)) (by
      have := (srtW_perm ((standsD w).map (·.1))).length_eq
      rw [List.length_map] at this
      rw [this]
      omega)
    refine ⟨rfl, w, rfl, by omega, s1, encS (standsD w), rfl, (keys_enc (d := standsD w)) ▸ hsok, (congrArg (fun z => shwD (.tuple z)) e1).trans s1, ite_rep (congrArg PyData.tuple e1.symm) ?_⟩
    -- none
    refine ⟨rfl, w, rfl, by omega, shw_bool _, encS (standsD w), rfl, shw_bool _, ite_rep (congrArg PyData.bool (by cases standsD w <;> rfl)) ?_⟩
    -- looks ahead
    refine ⟨a, l, rfl, rfl, rfl, _, rfl, by rw [hl]; omega, fun r r0 hr => ⟨Nat.zero_le _, ?_⟩⟩
    rw [hl] at hr
    obtain ⟨n, hn, hn1, hn2⟩ : ∃ n : Nat, 1 + r = (n : Int) ∧ 1 ≤ n ∧ n ≤ 100 := ⟨(1 + r).toNat, by omega, by omega, by omega⟩
    dsimp only [wmNil]
    rw [hn]
    refine seq_inv (fun ρ => ∃ x9 x10, ρ = [.unk, .own (.src a l), .dat (.int i), .dat (wd w), .dat (.int w.length), .dat (.str (wd w).shown), .dat (.dict (encT (encS (standsD w)))), .dat (.int n), .own (.lst ((looks w n).map .int)), x9, x10, x11, x12, x13]) (fun K1 hK1 => ?_) (fun ρ hI => ?_)
    · refine ⟨s62 (by rw [hl]; omega) (by rw [hl]; omega), ?_⟩
      show wForL _ _ _ _ (rangeL 0 _) _
      rw [rangeL_0 (n := w.length) (by rw [hl]; omega)]
      refine forL_range _ _ (fun p ρ => p ≤ w.length ∧ ∃ x9 x10, ρ = [.unk, .own (.src a l), .dat (.int i), .dat (wd w), .dat (.int w.length), .dat (.str (wd w).shown), .dat (.dict (encT (encS (standsD w)))), .dat (.int n), .own (.lst (((looks w n).take p).map .int)), x9, x10, x11, x12, x13]) (fun p ρ hp hI K2 hK2 => ?_) (fun ρ hI => ?_) ⟨Nat.zero_le _, x9, x10, by
        show [AV.unk, _, _, _, AV.dat (.int ((w.map PyData.int).length : Nat)), _, _, _, _, _, _, _, _, _] = _
        rw [hl]; rfl⟩
      · obtain ⟨_, x9, x10, rfl⟩ := hI
        refine seq_inv (fun ρ => ρ = [.unk, .own (.src a l), .dat (.int i), .dat (wd w), .dat (.int w.length), .dat (.str (wd w).shown), .dat (.dict (encT (encS (standsD w)))), .dat (.int n), .own (.lst (((looks w n).take p).map .int)), .dat (.int p), .dat (.int 0), x11, x12, x13]) (fun K3 hK3 => hK3 _ rfl) (fun ρ hI => ?_)
        subst hI
        refine seq_inv (fun ρ => ρ = [.unk, .own (.src a l), .dat (.int i), .dat (wd w), .dat (.int w.length), .dat (.str (wd w).shown), .dat (.dict (encT (encS (standsD w)))), .dat (.int n), .own (.lst (((looks w n).take p).map .int)), .dat (.int p), .dat (.int (far w n p)), x11, x12, x13]) (fun K3 hK3 => ?_) (fun ρ hI => ?_)
        · refine while_inv (fun m ρ => ∃ f, m = far w n p - f ∧ f ≤ far w n p ∧ ρ = [.unk, .own (.src a l), .dat (.int i), .dat (wd w), .dat (.int w.length), .dat (.str (wd w).shown), .dat (.dict (encT (encS (standsD w)))), .dat (.int n), .own (.lst (((looks w n).take p).map .int)), .dat (.int p), .dat (.int f), x11, x12, x13]) (fun m ρ hI K4 hK4 => ?_) (m := far w n p) ⟨0, rfl, Nat.zero_le _, rfl⟩
          obtain ⟨f, rfl, hf, rfl⟩ := hI
          have hs := far_succ hf
          have stop : ¬ f + 1 ≤ far w n p → f = far w n p := fun h => by omega
          refine ite2 (fun e => ?_) (fun e => ?_)
          · have e := of_decide_eq_true e
            have h1 : p + n + f < w.length := by omega
            obtain ⟨x, hx⟩ : ∃ x, w[p + f]? = some x := ⟨_, List.getElem?_eq_getElem (by omega)⟩
            obtain ⟨y, hy⟩ : ∃ y, w[p + n + f]? = some y := ⟨_, List.getElem?_eq_getElem h1⟩
            refine ⟨.int x, at_int (p := p + f) hx, .int y, ?_, rfl, rfl, ?_⟩
            · have := at_int (p := p + n + f) hy
              rw [show ((p + n + f : Nat) : Int) = (p : Int) + (f : Int) + (n : Int) by omega] at this
              exact this
            rw [eqv_int]
            refine ite2 (fun e => ?_) (fun e => ?_)
            · have e := of_decide_eq_true e
              subst e
              have h3 := hs.mpr ⟨x, hx, hy⟩
              exact hK4 (far w n p - (f + 1)) _ (by omega) ⟨f + 1, rfl, h3, rfl⟩
            · have h3 : ¬ f + 1 ≤ far w n p := fun h => by
                obtain ⟨z, h4, h5⟩ := hs.mp h
                rw [hx] at h4
                rw [hy] at h5
                exact e (decide_eq_true ((Option.some.inj h4).trans (Option.some.inj h5).symm))
              exact hK3 _ (by rw [← stop h3])
          · refine ite2 (fun z => by cases z) (fun _ => ?_)
            have h3 : ¬ f + 1 ≤ far w n p := fun h => by
              obtain ⟨z, h4, h5⟩ := hs.mp h
              have := (List.getElem?_eq_some_iff.mp h5).1
              exact e (decide_eq_true (by omega))
            exact hK3 _ (by rw [← stop h3])
        · subst hI
          have hlook : (looks w n).length = w.length := by simp [looks]
          refine ⟨⟨_, rfl⟩, _, rfl, small_lt (by rw [List.length_map, List.length_take]; omega), hK2 _ ⟨hp, .dat (.int p), .dat (.int (far w n p)), ?_⟩⟩
          have hx : (looks w n)[p]? = some (far w n p : Int) := by
            unfold looks
            rw [List.getElem?_map, List.getElem?_range hp]
            rfl
          have e2 : ((looks w n).take p).map PyData.int ++ [.int (far w n p)] = ((looks w n).take (p + 1)).map .int := by
            rw [List.take_add_one, hx, List.map_append]; rfl
          show [_, _, _, _, _, _, _, _, AV.own (.lst (((looks w n).take p).map PyData.int ++ [.int (far w n p)])), _, _, _, _, _] = _
          rw [e2]
      · obtain ⟨_, x9, x10, rfl⟩ := hI
        refine hK1 _ ⟨x9, x10, ?_⟩
        rw [List.take_of_length_le (by simp [looks])]
    clear x9 x10
    obtain ⟨x9, x10, rfl⟩ := hI
    have s2 : shwD (wd (looks w n)) = true := shw_row (m := 40) ⟨by simp [looks]; omega, fun x hx => by
      unfold looks at hx
      obtain ⟨p, hp, rfl⟩ := List.mem_map.mp hx
      have := (lcp_le (a := w.drop p) (b := w.drop (p + n))).1
      rw [List.length_drop] at this
      have : far w n p ≤ 40 := by unfold far; omega
      omega⟩ (by decide)
    refine ⟨rfl, w, n, rfl, by omega, by omega, s2, _, rfl, s2, ite_rep rfl ?_⟩
    -- last stands
    have hD : (standsD w).length ≤ 1600 := hkeys
    dsimp only [wNext]
    obtain ⟨y9, hy9⟩ : ∃ y9, y9 = keepD (some x9) := ⟨_, rfl⟩
    refine seq_inv (fun ρ => ρ = [.unk, .own (.src a l), .dat (.int i), .dat (wd w), .dat (.int w.length), .dat (.str (wd w).shown), .dat (.dict (encT (encS (standsD w)))), .dat (.int n), .own (.lst ((looks w n).map .int)), y9, x10, .own (.lsts (List.replicate w.length [])), x12, x13]) (fun K1 hK1 => ?_) (fun ρ hI => ?_)
    · refine ⟨s62 (by omega) (by omega), ?_⟩
      show wLcsL _ _ _ _ (rangeL 0 _) 0 _
      rw [rangeL_0 (n := w.length) (by omega)]
      refine lcsL_all (fun d hd Ky Kn h => h _ rfl) (by rw [List.length_map, List.length_range]; exact small_len (by omega)) ?_
      rw [Nat.zero_add, List.length_map, List.length_range]
      exact hK1 _ (by rw [hy9]; rfl)
    subst hI
    refine seq_inv (fun ρ => ∃ x12, ρ = [.unk, .own (.src a l), .dat (.int i), .dat (wd w), .dat (.int w.length), .dat (.str (wd w).shown), .dat (.dict (encT (encS (standsD w)))), .dat (.int n), .own (.lst ((looks w n).map .int)), y9, x10, .own (.lsts ((lastsD w).map fun l => l.map .int)), x12, x13]) (fun K1 hK1 => ?_) (fun ρ hI => ?_)
    · refine ⟨encS (standsD w), rfl, ?_⟩
      erw [keys_enc]
      refine forL_list (fun rest ρ => ∃ done todo x12, standsD w = done ++ todo ∧ rest = (todo.map (·.1)).map wd ∧ ρ = [.unk, .own (.src a l), .dat (.int i), .dat (wd w), .dat (.int w.length), .dat (.str (wd w).shown), .dat (.dict (encT (encS (standsD w)))), .dat (.int n), .own (.lst ((looks w n).map .int)), y9, x10, .own (.lsts ((lastF done w.length).map fun l => l.map .int)), x12, x13]) (fun d rest ρ hI K2 hK2 => ?_) (fun ρ hI => ?_) ⟨[], _, x12, rfl, rfl, by simp [lastF]⟩
      · obtain ⟨done, todo, x12, e4, e5, rfl⟩ := hI
        cases todo with
        | nil => cases e5
        | cons z todo =>
          cases e5
          have hz : z ∈ standsD w := by rw [e4]; simp
          obtain ⟨hne, hpl⟩ := stands_place hz
          obtain ⟨p, hp⟩ : ∃ p, z.2.getLast? = some p := by
            cases h : z.2.getLast? with
            | none => exact absurd (List.getLast?_eq_none_iff.mp h) hne
            | some p => exact ⟨p, rfl⟩
          have hp1 := (mem_occTo.mp (hpl p (List.mem_of_getLast? hp))).1
          obtain ⟨hL1, hL2⟩ := lastF_len (d := done) (n := w.length)
          obtain ⟨lr, hl'⟩ : ∃ lr, (lastF done w.length)[p]? = some lr := ⟨_, List.getElem?_eq_getElem (by omega)⟩
          have hll := hL2 lr (List.mem_of_getElem? hl')
          have hdl : done.length ≤ 1600 := by rw [e4, List.length_append] at hD; omega
          have hlk := look_stands hz
          refine ⟨⟨_, rfl⟩, encS (standsD w), kw z.1, ps z.2, rfl, (key_kw _).symm, hlk, .int p, at_last (by rw [List.getLast?_map, hp]; rfl), _, p, p, lr.map .int, rfl, rfl, ixN_nat (by rw [List.length_map]; omega), by rw [List.getElem?_map, hl']; rfl, ⟨by decide, by decide⟩, small_lt (by rw [List.length_map]; omega), ?_⟩
          refine hK2 _ ⟨done ++ [z], todo, .dat (wd z.1), by rw [e4]; simp, rfl, ?_⟩
          have e6 : ((lastF done w.length).map fun l => l.map PyData.int).set p (lr.map PyData.int ++ [.int (((z.1.map PyData.int).length : Int) / 2)]) = (lastF (done ++ [z]) w.length).map fun l => l.map PyData.int := by
            rw [lastF_snoc, hp]
            apply List.ext_getElem?
            intro i
            rw [List.getElem?_set, List.length_map, List.getElem?_map, List.getElem?_map, List.getElem?_modify, Option.getD_some]
            by_cases h : p = i
            · subst h
              rw [if_pos rfl, if_pos (by omega), hl']
              simp
            · rw [if_neg h]
              simp [h]
          show [_, _, _, _, _, _, _, _, _, _, _, AV.own (.lsts (((lastF done w.length).map fun l => l.map PyData.int).set p (lr.map PyData.int ++ [.int (((z.1.map PyData.int).length : Int) / 2)]))), _, _] = _
          rw [e6]
      · obtain ⟨done, todo, x12, e4, e5, rfl⟩ := hI
        have : todo = [] := by cases todo with | nil => rfl | cons _ _ => cases e5
        subst this
        rw [List.append_nil] at e4
        exact hK1 _ ⟨x12, by unfold lastsD; rw [e4]⟩
    clear x12
    obtain ⟨x12, rfl⟩ := hI
    obtain ⟨hL1, hL2⟩ := lastF_len (d := standsD w) (n := w.length)
    have lastLo : ∀ r ∈ lastsD w, Lo r 1600 := fun r hr => ⟨by have := hL2 r hr; omega, fun x hx => by
      have key : ∀ (d : List (List Int × List Nat)), (∀ z ∈ d, z.1.length ≤ 40) → ∀ r ∈ lastF d w.length, ∀ x ∈ r, 0 ≤ x ∧ x < 1024 := by
        intro d
        suffices h : ∀ (d' d : List (List Int × List Nat)), d' = d.reverse → (∀ z ∈ d, z.1.length ≤ 40) → ∀ r ∈ lastF d w.length, ∀ x ∈ r, 0 ≤ x ∧ x < 1024 from h _ d rfl
        intro d'
        induction d' with
        | nil =>
          intro d h _ r hr x hx
          have : d = [] := by simpa using h.symm
          subst this
          rw [List.eq_of_mem_replicate hr] at hx
          cases hx
        | cons z d' ih =>
          intro d h hd r hr x hx
          have e : d = d'.reverse ++ [z] := by
            have := congrArg List.reverse h
            simpa using this.symm
          subst e
          rw [lastF_snoc] at hr
          obtain ⟨i, hi⟩ := List.getElem?_of_mem hr
          rw [List.getElem?_modify] at hi
          obtain ⟨l0, hl0, e⟩ := Option.map_eq_some_iff.mp hi
          have hb := ih d'.reverse (by simp) (fun y hy => hd y (List.mem_append_left _ hy)) l0 (List.mem_of_getElem? hl0)
          split at e
          · subst e
            rcases List.mem_append.mp hx with h | h
            · exact hb x h
            · rw [List.mem_singleton.mp h]
              have := hd z (by simp)
              omega
          · subst e
            exact hb x hx
      refine key (standsD w) (fun z hz => ?_) r hr x hx
      have := (key_lo hw (List.mem_map.mpr ⟨z, hz, rfl⟩)).1
      omega⟩
    have s3 : shwD (.tuple ((lastsD w).map fun r => .tuple ((srt r).map .int))) = true := by
      have h := shw_rows (ls := (lastsD w).map srt) (m := 1600) (fun r hr => by
        obtain ⟨r0, hr0, rfl⟩ := List.mem_map.mp hr
        have h0 := lastLo r0 hr0
        exact ⟨by rw [(srt_perm r0).length_eq]; exact h0.1, fun x hx => h0.2 x ((srt_perm r0).subset hx)⟩) (by
          rw [List.length_map]
          unfold lastsD
          rw [hL1]
          omega)
      rw [List.map_map] at h
      exact h
    refine ⟨rfl, w, rfl, by omega, s3, ?_⟩
    show wLcL _ _ _ _ _ ((((lastsD w).map fun l => l.map PyData.int)).map PyData.list) [] _
    rw [List.map_map]
    refine lcL_map (fun d => match d with | .list xs => .tuple (sortedBy xs) | _ => .none) (fun d hd Ky Kn h => ?_) (by rw [List.length_map]; unfold lastsD; rw [hL1]; exact small_len (by omega)) ?_
    · obtain ⟨r, hr, rfl⟩ := List.mem_map.mp hd
      exact ⟨_, rfl, ok_list_ints r, srt_ints r, h _ rfl⟩
    rw [List.map_map]
    have e7 : ((lastsD w).map ((fun d => match d with | PyData.list xs => PyData.tuple (sortedBy xs) | _ => .none) ∘ (PyData.list ∘ fun l => l.map PyData.int))) = (lastsD w).map fun l => .tuple ((srt l).map .int) :=
      List.map_congr_left fun l _ => by simp [AL.sorted_ints]
    rw [e7]
    refine ⟨s3, ite_rep rfl ?_⟩
    -- squares at places
    dsimp only [wNext]
    refine seq_inv (fun ρ => ∃ x9 x12 x13, ρ = [.unk, .own (.src a l), .dat (.int i), .dat (wd w), .dat (.int w.length), .dat (.str (wd w).shown), .dat (.dict (encT (encS (standsD w)))), .dat (.int n), .own (.lst ((looks w n).map .int)), x9, x10, .dat (.list ((lastsD w).map fun r => .list (r.map .int))), x12, x13]) (fun K1 hK1 => ?_) (fun ρ hI => ?_)
    · refine ⟨a, l, rfl, ⟨_, rfl, ⟨by omega, by omega, by omega, by omega, by omega⟩, rfl, rfl, _, rfl, ?_, fun ys hys => ?_⟩⟩
      · have := rangeL_0 (m := (w.length : Int).toNat) (n := w.length) (by omega)
        rw [this, List.length_map, List.length_range]
        omega
      rw [rangeL_0 (n := w.length) (by omega)] at hys
      have hmem : ∀ d ∈ cutL ys none (some 6), ∃ p : Nat, p < w.length ∧ d = .int p := fun d hd => by
        have hd' : d ∈ ys.take 6 := by
          have := cut_take (xs := ys) 6
          rw [← this]
          exact hd
        obtain ⟨p, hp, rfl⟩ := List.mem_map.mp (hys.subset (List.take_subset _ _ hd'))
        exact ⟨p, List.mem_range.mp hp, rfl⟩
      refine forL_list (fun rest ρ => (∀ d ∈ rest, ∃ p : Nat, p < w.length ∧ d = .int p) ∧ ∃ x9 x12 x13, ρ = [.unk, .own (.src a l), .dat (.int i), .dat (wd w), .dat (.int w.length), .dat (.str (wd w).shown), .dat (.dict (encT (encS (standsD w)))), .dat (.int n), .own (.lst ((looks w n).map .int)), x9, x10, .dat (.list ((lastsD w).map fun r => .list (r.map .int))), x12, x13]) (fun d rest ρ hI K2 hK2 => ?_) (fun ρ hI => ?_) ⟨hmem, y9, x12, keepD (some x13), ?_⟩
      · obtain ⟨hr, x9, x12, x13, rfl⟩ := hI
        obtain ⟨p, hp, rfl⟩ := hr d List.mem_cons_self
        refine ⟨encS (standsD w), rfl, ?_⟩
        erw [keys_enc]
        have hbz : ∀ z ∈ standsD w, ((standsD w).any fun z' => PyData.eqv (wd z'.1) (wd z.1) && decide (p ∈ z'.2)) = decide (p ∈ z.2) := fun z hz => by
          rw [Bool.eq_iff_iff, List.any_eq_true]
          simp only [eqv_wd, Bool.and_eq_true, decide_eq_true_eq]
          constructor
          · rintro ⟨z', hz', e, hp⟩
            have l1 := look_stands hz'
            have l2 := look_stands hz
            rw [e, l2] at l1
            have e9 : ps z.2 = ps z'.2 := Option.some.inj l1
            have e8 : z.2 = z'.2 := by
              unfold ps at e9
              have := PyData.list.inj e9
              exact (List.map_inj_right (fun x y h => by cases h; rfl)).mp this
            rw [e8]; exact hp
          · intro h
            exact ⟨z, hz, rfl, h⟩
        have hyz : ∀ z ∈ standsD w, halfD (wd z.1) = .int ((z.1.length / 2 : Nat) : Int) := fun z _ => by
          show PyData.int (((z.1.map PyData.int).length : Int) / 2) = _
          rw [List.length_map]
          congr 1
        refine lcL_pure (fun d => ((standsD w).any fun z => PyData.eqv (wd z.1) d && decide (p ∈ z.2))) halfD (fun d hd Ky Kn h1 h2 => ?_) (by rw [List.length_map, List.length_map]; exact small_len (by simp; omega)) ?_
        · obtain ⟨s, hs, rfl⟩ := List.mem_map.mp hd
          obtain ⟨z, hz, rfl⟩ := List.mem_map.mp hs
          refine ⟨encS (standsD w), kw z.1, ps z.2, rfl, (key_kw _).symm, look_stands hz, rfl, ok_nd _, ?_⟩
          have e9 : (xor false ((nd z.2).any fun y => PyData.eqv y (.int (p : Int)))) = ((standsD w).any fun z' => PyData.eqv (wd z'.1) (wd z.1) && decide (p ∈ z'.2)) := by
            rw [hbz z hz, any_nd, Bool.false_xor]
          exact ite2 (fun e => ⟨⟨by decide, by decide⟩, h1 (e9.symm.trans e) _ rfl⟩) (fun e => h2 (e9.symm.trans (Bool.eq_false_iff.mpr e)) _ rfl)
        · have e10 := halves_nd (p := p) (b := fun d => ((standsD w).any fun z => PyData.eqv (wd z.1) d && decide (p ∈ z.2))) (y := halfD) hbz hyz
          rw [List.nil_append]
          erw [e10]
          have e11 : nd (halves w p) = ((halves w p).map fun (n : Nat) => (n : Int)).map PyData.int := by unfold nd; rw [List.map_map]; rfl
          have e12 : sortedBy (nd (halves w p)) = nd (sqN w p) := by
            rw [e11, AL.sorted_ints, sorted_halves hp]; unfold nd; rw [List.map_map]; rfl
          refine ⟨_, rfl, ok_nd _, e11 ▸ srt_ints _, ?_⟩
          dsimp only [ownD]
          rw [e12]
          have s5 : shwD (.tuple (nd (sqN w p))) = true := by
            rw [nd_wd]
            refine shw_row (m := 40) ⟨by rw [List.length_map]; have := sqN_len (w := w) (p := p); omega, fun x hx => ?_⟩ (by decide)
            obtain ⟨m, hm, rfl⟩ := List.mem_map.mp hx
            have := (of_decide_eq_true ((mem_sqN (by omega)).mp hm).2).1
            omega
          have e13 : sq w p n = xor false ((nd (sqN w p)).any fun y => PyData.eqv y (.int (n : Int))) := by
            rw [any_nd, Bool.false_xor, Bool.eq_iff_iff, decide_eq_true_iff, mem_sqN (by omega)]
            exact ⟨fun h => ⟨hn1, h⟩, fun h => h.2⟩
          refine ⟨rfl, w, p, rfl, by omega, by omega, s5, s5, ite_rep rfl ?_⟩
          refine ⟨rfl, w, p, n, rfl, by omega, hp, by omega, shw_bool _, rfl, ok_nd _, shw_bool _, ite_rep (congrArg PyData.bool e13) ?_⟩
          exact hK2 _ ⟨fun d hd => hr d (List.mem_cons_of_mem _ hd), .dat (.int p), keepD (some x12), .dat (.list (nd (sqN w p))), rfl⟩
      · obtain ⟨_, x9, x12, x13, rfl⟩ := hI
        exact hK1 _ ⟨x9, x12, x13, rfl⟩
      · rfl
    clear x12
    obtain ⟨x9, x12, x13, rfl⟩ := hI
    refine ⟨hshw, ite_rep rfl (hK _ ⟨_, _, _, _, _, _, _, _, _, _, _, _, rfl⟩)⟩
  · obtain ⟨x2, x3, x4, x5, x6, x7, x8, x9, x10, x11, x12, x13, rfl⟩ := hI
    have k1 : (srtW ((standsD [0, 0, 0]).map (·.1))).map wd = [.tuple [.int 0, .int 0]] := by
      have : (standsD [0, 0, 0]).map (·.1) = [[0, 0]] := by decide
      rw [this]
      simp [srtW, wd]
    have k2 : (srtW ((standsD []).map (·.1))).map wd = [] := by
      have : (standsD []).map (·.1) = [] := by decide
      rw [this]
      simp [srtW]
    refine ⟨small_len (show 3 ≤ 16777216 by decide), rfl, [0, 0, 0], rfl, (show 3 ≤ 1000 by decide), small_len (show 2 ≤ 16777216 by decide), small_len (show 1 ≤ 16777216 by decide), ?_, rfl, ite2 (fun e => ?_) (fun e => ?_)⟩
    · rw [k1]; rfl
    · refine ⟨Nat.zero_le _, rfl, [], rfl, Nat.zero_le _, Nat.zero_le _, ?_, rfl, ?_⟩
      · rw [k2]; rfl
      · rw [k2]; rfl
    · exfalso
      rw [k1] at e
      exact e (by decide)
end LW

namespace LW
open PySem PySem.Spec PyProof.Rows L2 AL
def topS (i : Nat) : Stmt := PySem.Challenge.pw_lettersagain_k81_squares_found.main.body.getD i (.Pass ⟨0, 0, 0, 0⟩)
section
variable {P : Program} {w : World} {K : PySem.W.Frag} {mg : Str → Option Value} {base : Heap}

abbrev s_law_open_cells : Stmt := topS 9
abbrev s_law_pick : Stmt := topS 10
theorem sc_law_pick : FnScope npPick ["source", "most"] (defScope s_law_pick) := ⟨rfl, rfl, rfl, by decide +kernel, rfl, by decide +kernel, by decide +kernel⟩
theorem sc_law_open_cells : FnScope npOpen ["script"] (defScope s_law_open_cells) := ⟨rfl, rfl, rfl, by decide +kernel, rfl, by decide +kernel, by decide +kernel⟩
theorem dpick (B : Blt mg) {f : Addr} {fd : FuncData} (D : Fun K "_law_pick" "_law_pick" s_law_pick f fd) : FnG P w K mg base 1 f fd ["source", "most"] (promS 1 spPick) := by
  have Sc := sc_law_pick
  refine fn_pick D Sc fun X cdv A outer s H E hX gd => ?_
  subst hX
  have hu := hu_of gd.room
  exact (pss_cons (ps_if (pt_cmpR op_lt (pv 1) pe_int (nomark _)) (pss_one (ps_ret pe_int)) pss_nil)
    (pss_cons (ps_set (i := 2) Sc.nd rfl (.inl rfl) (pe_dget hu (pv 0) pe_str (fun _ _ => rfl)))
    (pss_cons (ps_while PassesOwn.never (pw_and (pt_cmpR op_lt (pe_dget hu (pv 0) pe_str (fun _ _ => rfl)) pe_int (nomark _)) (pw_and1 (pt_cmpR op_gt (pe_callB call_len_seq (by rfl) B.len PySem.boot_len (pa_cons (pv 2) pa_nil)) pe_int (nomark _)))).pt
      (pss_one (ps_dput hu (pv 0) pe_str (pe_bm0 PySem.F.plainAttrs_list PySem.F.slot_list_pop PySem.F.type_list_pop mt_pop (pv 2)) (by rfl))))
    (pss_cons (ps_set (i := 3) Sc.nd rfl (.inl rfl) (pe_dget hu (pv 0) pe_str (fun _ _ => rfl)))
    (pss_cons (ps_if (pt_cmpR op_gt (pv 3) pe_int (nomark _)) (pss_cons (ps_dput hu (pv 0) pe_str (pe_op op_fdiv (pv 3) (pv 1)) (by rfl)) (pss_one (ps_ret (pe_op op_mod (pe_callTy call_int1 (by rfl) B.int boot_int (pa_cons (pv 3) pa_nil)) (pv 1))))) pss_nil)
    (pss_cons (ps_dput hu (pv 0) pe_str (pe_op op_add (pe_dget hu (pv 0) pe_str (fun _ _ => rfl)) pe_int) (by rfl))
    (pss_cons (ps_set (i := 4) Sc.nd rfl (.inl rfl) (pe_dget hu (pv 0) pe_str (fun _ _ => rfl)))
    (pss_cons (ps_set (i := 5) Sc.nd rfl (.inl rfl) (pe_op op_mod (pe_callTy call_int1 (by rfl) B.int boot_int (pa_cons (pe_op op_add (pe_dget hu (pv 0) pe_str (fun _ _ => rfl)) (pe_op op_mul (pv 4) pe_int)) pa_nil)) pe_int))
    (pss_cons (ps_set (i := 5) Sc.nd rfl (.inl rfl) (pe_op op_mod (pe_callTy call_int1 (by rfl) B.int boot_int (pa_cons (pe_op op_add (pe_op op_mul (pv 5) (pv 5)) (pe_op op_mul (pv 4) pe_int)) pa_nil)) pe_int))
    (pss_one (ps_ret (pe_op op_mod (pe_callTy call_int1 (by rfl) B.int boot_int (pa_cons (pe_op op_fdiv (pv 5) pe_int) pa_nil)) (pv 1)))))))))))))
theorem dopen (B : Blt mg) {f : Addr} {fd : FuncData} (D : Fun K "_law_open_cells" "_law_open_cells" s_law_open_cells f fd) : FnG P w K mg base 1 f fd ["script"] (spOpen K) := by
  have Sc := sc_law_open_cells
  refine fn_open D Sc fun X cdv A outer s H E hX gd => ?_
  subst hX
  exact (pss_cons (ps_set (i := 1) Sc.nd rfl (.inl rfl) pe_int)
    (pss_cons (ps_for PassesOwn.never rfl (pi_list (pv 0)) (pg_name (i := 2) Sc.nd rfl (.inl rfl)) (pss_one (ps_set (i := 1) Sc.nd rfl (.inl rfl) (pe_op op_mod (pe_callTy call_int1 (by rfl) B.int boot_int (pa_cons (pe_op op_add (pe_op op_add (pe_op op_mul (pv 1) pe_int) (pe_op op_mul (pv 2) pe_int)) pe_int) pa_nil)) pe_int))))
    (pss_cons (ps_setLc (i := 3) (own := [("cell", 2)]) rfl Sc.nd rfl rfl (sw_true rfl rfl (by rfl) (by rfl)) (pi_list (pv 0)) (blkOk_by (by rfl)) (fun _ _ _ _ _ => pg_name (i := 2) Sc.nd rfl (.inl rfl)) (fun _ _ _ _ _ => pts_nil) (fun _ _ _ _ _ => pe_callB call_abs (by rfl) B.abs (by decide +kernel) (pa_cons (pv 2) pa_nil)))
    (pss_one (ps_ret (pe_disp (pps_cons pe_str (pe_revL (pv 3)) (pps_cons pe_str pe_int (pps_cons pe_str (pv 1) (pps_cons pe_str pe_int pps_nil)))) rfl rfl (by decide) (by decide)))))))

abbrev slook_ahead : Stmt := topS 1
theorem sclook_ahead : FnScope Nlook_ahead ["word", "length"] (defScope slook_ahead) := ⟨rfl, rfl, rfl, by decide +kernel, rfl, by decide +kernel, by decide +kernel⟩

theorem dlook_ahead (B : Blt mg)  {f : Addr} {fd : FuncData} (D : Fun K "look_ahead" "look_ahead" slook_ahead f fd) : FnG P w K mg base 1 f fd ["word", "length"] (prom 2 splook_ahead) := by
  have Sc := sclook_ahead
  refine fn_data D Sc (by decide) Wlook_ahead (fun X cdv A outer s H E hX gd => ?_) pulook_ahead
  subst hX
  exact (ass_cons (by first | exact as_par (i := 2) (j := 3) rfl Sc.nd rfl rfl rfl rfl (am_own (ao_lst aa_nil) (am_dat ae_int am_nil)) | exact as_parT (i := 2) (j := 3) Sc.nd (am_own (ao_lst aa_nil) (am_dat ae_int am_nil)))
 (ass_cons (s_for [] (i_r3 B (aa_cons (ae_sub (r_len B (nv 0)) ae_int) (aa_cons (ae_neg ae_int) (aa_cons (ae_neg ae_int) aa_nil)))) (g_name 4 Sc.nd) (ass_cons (s_set 3 Sc.nd (ae_if (aw_pt (aw_and (t_lt gd (ae_add (nv 4) (nv 1)) (r_len B (nv 0))) (aw_and1 (t_eq gd (r_ix (nv 0) (nv 4)) (r_ix (nv 0) (ae_add (nv 4) (nv 1))))))) (ae_add (nv 3) ae_int) ae_int))
 (ass_one (s_app 2 (nv 3)))))
 (ass_one (as_ret (r_tuple B (r_revV 2))))))

abbrev sstands_at : Stmt := topS 2
theorem scstands_at : FnScope Nstands_at ["word", "place", "length"] (defScope sstands_at) := ⟨rfl, rfl, rfl, by decide +kernel, rfl, by decide +kernel, by decide +kernel⟩

theorem dstands_at (B : Blt mg) (Clook_ahead : Cal P w K mg base 1 "look_ahead" ["word", "length"] (prom 2 splook_ahead)) {f : Addr} {fd : FuncData} (D : Fun K "stands_at" "stands_at" sstands_at f fd) : FnG P w K mg base 2 f fd ["word", "place", "length"] (prom 3 spstands_at) := by
  have Sc := scstands_at
  have Clook_ahead := Clook_ahead.mono (k := 1) (by decide)
  refine fn_data D Sc (by decide) Wstands_at (fun X cdv A outer s H E hX gd => ?_) pustands_at
  subst hX
  exact (ass_one (as_ret (ae_and (r_le gd (ae_add (nv 1) (ae_mul ae_int (nv 2))) (r_len B (nv 0))) (ae_one (r_ge (r_ix (c_call Clook_ahead gd (aa_cons (nv 0) (aa_cons (nv 2) aa_nil))) (nv 1)) (nv 2))))))

abbrev ssquares_at : Stmt := topS 3
theorem scsquares_at : FnScope Nsquares_at ["word", "place"] (defScope ssquares_at) := ⟨rfl, rfl, rfl, by decide +kernel, rfl, by decide +kernel, by decide +kernel⟩

theorem dsquares_at (B : Blt mg) (Cstands_at : Cal P w K mg base 2 "stands_at" ["word", "place", "length"] (prom 3 spstands_at)) {f : Addr} {fd : FuncData} (D : Fun K "squares_at" "squares_at" ssquares_at f fd) : FnG P w K mg base 3 f fd ["word", "place"] (prom 2 spsquares_at) := by
  have Sc := scsquares_at
  have Cstands_at := Cstands_at.mono (k := 2) (by decide)
  refine fn_data D Sc (by decide) Wsquares_at (fun X cdv A outer s H E hX gd => ?_) pusquares_at
  subst hX
  exact (ass_cons (s_set 2 Sc.nd (ae_fdiv (ae_sub (r_len B (nv 0)) (nv 1)) ae_int))
 (ass_one (as_ret (r_tuple B (ae_frz (o_lc [("length", 3)] Sc.nd (i_r2 B (aa_cons ae_int (aa_cons (ae_add (nv 2) ae_int) aa_nil))) (ct_name (j := 3) (by decide)) (fun _ _ _ _ _ => (q_name 3 Sc.nd)) (fun _ _ _ _ _ => (ats_one (at_val (c_call Cstands_at ⟨gd.1, gd.2⟩ (aa_cons (nv 0) (aa_cons (nv 1) (aa_cons (nv 3) aa_nil))))))) (fun _ _ _ _ _ => (nv 3))))))))

abbrev sstands_of : Stmt := topS 4
theorem scstands_of : FnScope Nstands_of ["word"] (defScope sstands_of) := ⟨rfl, rfl, rfl, by decide +kernel, rfl, by decide +kernel, by decide +kernel⟩

theorem dstands_of (B : Blt mg) (Csquares_at : Cal P w K mg base 3 "squares_at" ["word", "place"] (prom 2 spsquares_at)) {f : Addr} {fd : FuncData} (D : Fun K "stands_of" "stands_of" sstands_of f fd) : FnG P w K mg base 4 f fd ["word"] (prom 1 spstands_of) := by
  have Sc := scstands_of
  have Csquares_at := Csquares_at.mono (k := 3) (by decide)
  refine fn_data D Sc (by decide) Wstands_of (fun X cdv A outer s H E hX gd => ?_) pustands_of
  subst hX
  exact (ass_cons (s_setO 1 Sc.nd (ao_dnew dkT))
 (ass_cons (s_for [] (i_r1 B (aa_cons (r_len B (nv 0)) aa_nil)) (g_name 2 Sc.nd) (ass_one (s_for [] (ai_tup (c_call Csquares_at gd (aa_cons (nv 0) (aa_cons (nv 2) aa_nil)))) (g_name 3 Sc.nd) (ass_cons (s_set 4 Sc.nd (ae_slice (nv 0) (ap_some (nv 2)) (ap_some (ae_add (nv 2) (ae_mul ae_int (nv 3))))))
 (ass_one (s_dput dkT 1 gd (nv 4) (ae_frz (ao_lst (aa_star (r_dget2V dkT 1 gd (nv 4) (ae_frz (ao_lst aa_nil))) (aa_cons (nv 2) aa_nil))))))))))
 (ass_one (as_ret (nv 1)))))

abbrev sall_squares : Stmt := topS 5
theorem scall_squares : FnScope Nall_squares ["word"] (defScope sall_squares) := ⟨rfl, rfl, rfl, by decide +kernel, rfl, by decide +kernel, by decide +kernel⟩

theorem dall_squares (B : Blt mg) (Cstands_of : Cal P w K mg base 4 "stands_of" ["word"] (prom 1 spstands_of)) {f : Addr} {fd : FuncData} (D : Fun K "all_squares" "all_squares" sall_squares f fd) : FnG P w K mg base 5 f fd ["word"] (prom 1 spall_squares) := by
  have Sc := scall_squares
  have Cstands_of := Cstands_of.mono (k := 4) (by decide)
  refine fn_data D Sc (by decide) Wall_squares (fun X cdv A outer s H E hX gd => ?_) puall_squares
  subst hX
  exact (ass_one (as_ret (r_tuple B (ae_frz (o_sortedK dkT gd B (c_call Cstands_of gd (aa_cons (nv 0) aa_nil)))))))

abbrev slast_lengths : Stmt := topS 6
theorem sclast_lengths : FnScope Nlast_lengths ["word"] (defScope slast_lengths) := ⟨rfl, rfl, rfl, by decide +kernel, rfl, by decide +kernel, by decide +kernel⟩

theorem dlast_lengths (B : Blt mg) (Cstands_of : Cal P w K mg base 4 "stands_of" ["word"] (prom 1 spstands_of)) {f : Addr} {fd : FuncData} (D : Fun K "last_lengths" "last_lengths" slast_lengths f fd) : FnG P w K mg base 5 f fd ["word"] (prom 1 splast_lengths) := by
  have Sc := sclast_lengths
  have Cstands_of := Cstands_of.mono (k := 4) (by decide)
  refine fn_data D Sc (by decide) Wlast_lengths (fun X cdv A outer s H E hX gd => ?_) pulast_lengths
  subst hX
  exact (ass_cons (by first | exact s_setLcs 1 [("letter", 4)] Sc.nd (ai_tup (nv 0)) (ct_name (j := 4) (by decide)) (fun _ _ _ _ _ => (q_name 4 Sc.nd)) (fun _ _ _ _ _ => ats_nil) | exact s_setO 1 Sc.nd (o_lcs [("letter", 4)] Sc.nd (ai_tup (nv 0)) (ct_name (j := 4) (by decide)) (fun _ _ _ _ _ => (q_name 4 Sc.nd)) (fun _ _ _ _ _ => ats_nil)))
 (ass_cons (s_for [] (ai_items dkT (c_call Cstands_of gd (aa_cons (nv 0) aa_nil))) (ag_tup rfl (ags_cons (g_name 2 Sc.nd) (ags_cons (g_name 3 Sc.nd) ags_nil))) (ass_one (s_appIx 1 (r_ix (nv 3) (ae_neg ae_int)) (ae_fdiv (r_len B (nv 2)) ae_int))))
 (ass_one (as_ret (r_tuple B (ae_frz (o_lc [("lengths", 5)] Sc.nd (ai_list (nv 1)) (ct_name (j := 5) (by decide)) (fun _ _ _ _ _ => (q_name 5 Sc.nd)) (fun _ _ _ _ _ => ats_nil) (fun _ _ _ _ _ => (r_tuple B (ae_frz (o_sorted ⟨gd.1, gd.2⟩ B (nv 5))))))))))))

abbrev sis_without_squares : Stmt := topS 7
theorem scis_without_squares : FnScope Nis_without_squares ["word"] (defScope sis_without_squares) := ⟨rfl, rfl, rfl, by decide +kernel, rfl, by decide +kernel, by decide +kernel⟩

theorem dis_without_squares (B : Blt mg) (Call_squares : Cal P w K mg base 5 "all_squares" ["word"] (prom 1 spall_squares)) {f : Addr} {fd : FuncData} (D : Fun K "is_without_squares" "is_without_squares" sis_without_squares f fd) : FnG P w K mg base 6 f fd ["word"] (prom 1 spis_without_squares) := by
  have Sc := scis_without_squares
  have Call_squares := Call_squares.mono (k := 5) (by decide)
  refine fn_data D Sc (by decide) Wis_without_squares (fun X cdv A outer s H E hX gd => ?_) puis_without_squares
  subst hX
  exact (ass_one (as_ret (r_eq gd (c_call Call_squares gd (aa_cons (nv 0) aa_nil)) (ae_tup aa_nil))))

abbrev s_law_any_order : Stmt := topS 11
theorem sc_law_any_order : FnScope N_law_any_order ["source", "things"] (defScope s_law_any_order) := ⟨rfl, rfl, rfl, by decide +kernel, rfl, by decide +kernel, by decide +kernel⟩

theorem d_law_any_order (B : Blt mg) (C_law_pick : Cal P w K mg base 1 "_law_pick" ["source", "most"] (promS 1 sp_law_pick)) {f : Addr} {fd : FuncData} (D : Fun K "_law_any_order" "_law_any_order" s_law_any_order f fd) : FnG P w K mg base 2 f fd ["source", "things"] (promS 1 sp_law_any_order) := by
  have Sc := sc_law_any_order
  have C_law_pick := C_law_pick.mono (k := 1) (by decide)
  refine fn_src D Sc (n := 1) rfl (by decide) W_law_any_order (fun X cdv A outer s H E hX gd => ?_) pu_law_any_order
  subst hX
  exact (ass_cons (s_setO 2 Sc.nd (o_list B (nv 1)))
 (ass_one (as_ret (ae_frz (o_lc [("lap", 3)] Sc.nd (i_r1 B (aa_cons (r_lenV 2 B) aa_nil)) (ct_name (j := 3) (by decide)) (fun _ _ _ _ _ => (q_name 3 Sc.nd)) (fun _ _ _ _ _ => ats_nil) (fun _ _ _ _ _ => (r_popAt 2 (c_callS 0 C_law_pick ⟨gd.1, gd.2⟩ (aa_cons (r_lenV 2 B) aa_nil)))))))))

abbrev s_law_word : Stmt := topS 12
theorem sc_law_word : FnScope N_law_word ["source", "most", "letters"] (defScope s_law_word) := ⟨rfl, rfl, rfl, by decide +kernel, rfl, by decide +kernel, by decide +kernel⟩

theorem d_law_word (B : Blt mg) (C_law_pick : Cal P w K mg base 1 "_law_pick" ["source", "most"] (promS 1 sp_law_pick)) {f : Addr} {fd : FuncData} (D : Fun K "_law_word" "_law_word" s_law_word f fd) : FnG P w K mg base 2 f fd ["source", "most", "letters"] (promS 2 sp_law_word) := by
  have Sc := sc_law_word
  have C_law_pick := C_law_pick.mono (k := 1) (by decide)
  refine fn_src D Sc (n := 2) rfl (by decide) W_law_word (fun X cdv A outer s H E hX gd => ?_) pu_law_word
  subst hX
  exact (ass_cons (by first | exact as_par (i := 3) (j := 4) rfl Sc.nd rfl rfl rfl rfl (am_dat (c_callS 0 C_law_pick gd (aa_cons (ae_add (nv 1) ae_int) aa_nil)) (am_dat (c_callS 0 C_law_pick gd (aa_cons ae_int aa_nil)) am_nil)) | exact as_parT (i := 3) (j := 4) Sc.nd (am_dat (c_callS 0 C_law_pick gd (aa_cons (ae_add (nv 1) ae_int) aa_nil)) (am_dat (c_callS 0 C_law_pick gd (aa_cons ae_int aa_nil)) am_nil)))
 (ass_cons (s_set 5 Sc.nd (r_tuple B (ae_frz (o_lc [("k", 7)] Sc.nd (i_r1 B (aa_cons (nv 3) aa_nil)) (ct_name (j := 7) (by decide)) (fun _ _ _ _ _ => (q_name 7 Sc.nd)) (fun _ _ _ _ _ => ats_nil) (fun _ _ _ _ _ => (c_callS 0 C_law_pick ⟨gd.1, gd.2⟩ (aa_cons (nv 2) aa_nil)))))))
 (ass_cons (as_if (aw_pt (aw_and (t_eq gd (nv 4) ae_int) (aw_and1 (t_gt (nv 3) ae_int)))) (ass_cons (s_set 6 Sc.nd (ae_slice (nv 5) ap_none (ap_some (ae_add ae_int (c_callS 0 C_law_pick gd (aa_cons (nv 3) aa_nil))))))
 (ass_one (s_set 5 Sc.nd (ae_slice (ae_mul (nv 6) (nv 3)) ap_none (ap_some (nv 3)))))) ass_nil)
 (ass_cons (as_if (aw_pt (aw_and (t_eq gd (nv 4) ae_int) (aw_and1 (t_gt (nv 3) ae_int)))) (ass_one (s_set 5 Sc.nd (ae_add (ae_mul (ae_slice (nv 5) ap_none (ap_some (ae_fdiv (nv 3) ae_int))) ae_int) (ae_slice (nv 5) ap_none (ap_some (ae_mod (r_int B (nv 3)) ae_int)))))) ass_nil)
 (ass_cons (as_if (t_eq gd (nv 4) ae_int) (ass_one (s_set 5 Sc.nd (r_tuple B (ae_frz (o_lc [("letter", 8)] Sc.nd (ai_tup (nv 5)) (ct_name (j := 8) (by decide)) (fun _ _ _ _ _ => (q_name 8 Sc.nd)) (fun _ _ _ _ _ => ats_nil) (fun _ _ _ _ _ => (r_min2 B (nv 8) ae_int))))))) ass_nil)
 (ass_one (as_ret (nv 5))))))))

abbrev s_law_stands : Stmt := topS 13
theorem sc_law_stands : FnScope N_law_stands ["word"] (defScope s_law_stands) := ⟨rfl, rfl, rfl, by decide +kernel, rfl, by decide +kernel, by decide +kernel⟩

theorem d_law_stands (B : Blt mg)  {f : Addr} {fd : FuncData} (D : Fun K "_law_stands" "_law_stands" s_law_stands f fd) : FnG P w K mg base 1 f fd ["word"] (prom 1 sp_law_stands) := by
  have Sc := sc_law_stands
  refine fn_data D Sc (by decide) W_law_stands (fun X cdv A outer s H E hX gd => ?_) pu_law_stands
  subst hX
  exact (ass_cons (s_setO 1 Sc.nd (ao_dnew dkT))
 (ass_cons (s_for [] (i_r1 B (aa_cons (r_len B (nv 0)) aa_nil)) (g_name 2 Sc.nd) (ass_one (s_for [] (i_r2 B (aa_cons ae_int (aa_cons (ae_add (ae_fdiv (ae_sub (r_len B (nv 0)) (nv 2)) ae_int) ae_int) aa_nil))) (g_name 3 Sc.nd) (ass_cons (s_set 4 Sc.nd (ae_slice (nv 0) (ap_some (nv 2)) (ap_some (ae_add (nv 2) (ae_mul ae_int (nv 3))))))
 (ass_one (as_if (t_eq gd (ae_slice (nv 4) ap_none (ap_some (nv 3))) (ae_slice (nv 4) (ap_some (nv 3)) ap_none)) (ass_one (s_dput dkT 1 gd (nv 4) (ae_add (r_dget2V dkT 1 gd (nv 4) (ae_frz (ao_lst aa_nil))) (ae_frz (ao_lst (aa_cons (nv 2) aa_nil)))))) ass_nil))))))
 (ass_one (as_ret (nv 1)))))

abbrev s_law_square_word : Stmt := topS 14
theorem sc_law_square_word : FnScope N_law_square_word ["source", "most"] (defScope s_law_square_word) := ⟨rfl, rfl, rfl, by decide +kernel, rfl, by decide +kernel, by decide +kernel⟩

theorem d_law_square_word (B : Blt mg) (C_law_pick : Cal P w K mg base 1 "_law_pick" ["source", "most"] (promS 1 sp_law_pick)) (C_law_word : Cal P w K mg base 2 "_law_word" ["source", "most", "letters"] (promS 2 sp_law_word)) {f : Addr} {fd : FuncData} (D : Fun K "_law_square_word" "_law_square_word" s_law_square_word f fd) : FnG P w K mg base 3 f fd ["source", "most"] (promS 1 sp_law_square_word) := by
  have Sc := sc_law_square_word
  have C_law_pick := C_law_pick.mono (k := 2) (by decide)
  have C_law_word := C_law_word.mono (k := 2) (by decide)
  refine fn_src D Sc (n := 1) rfl (by decide) W_law_square_word (fun X cdv A outer s H E hX gd => ?_) pu_law_square_word
  subst hX
  exact (ass_cons (s_set 2 Sc.nd (c_callS 0 C_law_pick gd (aa_cons ae_int aa_nil)))
 (ass_cons (as_if (t_eq gd (nv 2) ae_int) (ass_cons (s_set 3 Sc.nd (ae_tup (aa_cons ae_int aa_nil)))
 (ass_cons (s_for [] (i_r1 B (aa_cons ae_int aa_nil)) (g_name 4 Sc.nd) (ass_cons (s_set 3 Sc.nd (ae_add (nv 3) (ae_slice (nv 3) ap_none (ap_some (ae_add ae_int (c_callS 0 C_law_pick gd (aa_cons (r_len B (nv 3)) aa_nil)))))))
 (ass_one (s_set 3 Sc.nd (ae_add (nv 3) (ae_mul (ae_tup (aa_cons (c_callS 0 C_law_pick gd (aa_cons ae_int aa_nil)) aa_nil)) (c_callS 0 C_law_pick gd (aa_cons ae_int aa_nil))))))))
 (ass_one (as_ret (ae_slice (nv 3) ap_none (ap_some (nv 1))))))) ass_nil)
 (ass_cons (as_if (t_eq gd (nv 2) ae_int) (ass_cons (as_asg (ae_tup (aa_cons (ae_tup (aa_cons ae_int (aa_cons ae_int aa_nil))) (aa_cons (ae_tup (aa_cons ae_int aa_nil)) aa_nil))) (ag_tup rfl (ags_cons (g_name 5 Sc.nd) (ags_cons (g_name 6 Sc.nd) ags_nil))))
 (ass_cons (s_for [] (i_r1 B (aa_cons ae_int aa_nil)) (g_name 4 Sc.nd) (ass_one (by first | exact as_par (i := 5) (j := 6) rfl Sc.nd rfl rfl rfl rfl (am_dat (ae_add (ae_mul (nv 5) (ae_add ae_int (c_callS 0 C_law_pick gd (aa_cons ae_int aa_nil)))) (nv 6)) (am_dat (nv 5) am_nil)) | exact as_parT (i := 5) (j := 6) Sc.nd (am_dat (ae_add (ae_mul (nv 5) (ae_add ae_int (c_callS 0 C_law_pick gd (aa_cons ae_int aa_nil)))) (nv 6)) (am_dat (nv 5) am_nil)))))
 (ass_one (as_ret (ae_slice (nv 5) ap_none (ap_some (c_callS 0 C_law_pick gd (aa_cons (ae_add (nv 1) ae_int) aa_nil)))))))) ass_nil)
 (ass_one (as_ret (c_callS 0 C_law_word gd (aa_cons (nv 1) (aa_cons ae_int aa_nil))))))))

abbrev slaw : Stmt := topS 15
theorem sclaw : FnScope Nlaw ["script"] (defScope slaw) := ⟨rfl, rfl, rfl, by decide +kernel, rfl, by decide +kernel, by decide +kernel⟩

theorem dlaw (B : Blt mg) (Co : Cal P w K mg base 1 "_law_open_cells" ["script"] (spOpen K)) (C_law_square_word : Cal P w K mg base 3 "_law_square_word" ["source", "most"] (promS 1 sp_law_square_word)) (C_law_stands : Cal P w K mg base 1 "_law_stands" ["word"] (prom 1 sp_law_stands)) (Call_squares : Cal P w K mg base 5 "all_squares" ["word"] (prom 1 spall_squares)) (Cis_without_squares : Cal P w K mg base 6 "is_without_squares" ["word"] (prom 1 spis_without_squares)) (C_law_pick : Cal P w K mg base 1 "_law_pick" ["source", "most"] (promS 1 sp_law_pick)) (Clook_ahead : Cal P w K mg base 1 "look_ahead" ["word", "length"] (prom 2 splook_ahead)) (Clast_lengths : Cal P w K mg base 5 "last_lengths" ["word"] (prom 1 splast_lengths)) (C_law_any_order : Cal P w K mg base 2 "_law_any_order" ["source", "things"] (promS 1 sp_law_any_order)) (Csquares_at : Cal P w K mg base 3 "squares_at" ["word", "place"] (prom 2 spsquares_at)) (Cstands_at : Cal P w K mg base 2 "stands_at" ["word", "place", "length"] (prom 3 spstands_at)) {f : Addr} {fd : FuncData} (D : Fun K "law" "law" slaw f fd) : FnG P w K mg base 7 f fd ["script"] (spLaw K) := by
  have Sc := sclaw
  have C_law_square_word := C_law_square_word.mono (k := 6) (by decide)
  have C_law_stands := C_law_stands.mono (k := 6) (by decide)
  have Call_squares := Call_squares.mono (k := 6) (by decide)
  have Cis_without_squares := Cis_without_squares.mono (k := 6) (by decide)
  have C_law_pick := C_law_pick.mono (k := 6) (by decide)
  have Clook_ahead := Clook_ahead.mono (k := 6) (by decide)
  have Clast_lengths := Clast_lengths.mono (k := 6) (by decide)
  have C_law_any_order := C_law_any_order.mono (k := 6) (by decide)
  have Csquares_at := Csquares_at.mono (k := 6) (by decide)
  have Cstands_at := Cstands_at.mono (k := 6) (by decide)
  have Co := Co.mono (k := 6) (by decide)
  refine fn_law D Sc (by decide) rfl (fun X cdv A outer s H E hX gd => ?_) (W := Wlaw) (fun X cdv A outer s H E hX gd => ?_) pulaw
  · subst hX
    obtain ⟨_, _, G, hm, hk, hb⟩ := Co
    exact ps_set (i := 1) Sc.nd rfl (.inl rfl) (pe_callG G gd (by rfl) hm hk hb (pa_cons (pv 0) pa_nil))
  · subst hX
    exact (ass_cons (s_for [] (i_r1 B (aa_cons ae_int aa_nil)) (g_name 2 Sc.nd) (ass_cons (s_set 3 Sc.nd (c_callS 1 C_law_square_word gd (aa_cons (r_ix (ae_frz (ao_lst (aa_cons ae_int (aa_cons ae_int (aa_cons ae_int (aa_cons ae_int aa_nil)))))) (nv 2)) aa_nil)))
 (ass_cons (by first | exact as_par3 (i := 4) (j := 5) (l := 6) rfl Sc.nd rfl rfl rfl rfl rfl rfl (am_dat (r_len B (nv 3)) (am_dat (r_repr gd B (nv 3)) (am_dat (c_call C_law_stands gd (aa_cons (nv 3) aa_nil)) am_nil))) | exact as_parT3 (i := 4) (j := 5) (l := 6) Sc.nd (am_dat (r_len B (nv 3)) (am_dat (r_repr gd B (nv 3)) (am_dat (c_call C_law_stands gd (aa_cons (nv 3) aa_nil)) am_nil))))
 (ass_cons (as_if (t_ne gd (r_repr gd B (c_call Call_squares gd (aa_cons (nv 3) aa_nil))) (r_repr gd B (r_tuple B (ae_frz (o_sortedK dkT gd B (nv 6)))))) (ass_one (as_ret ae_bl)) ass_nil)
 (ass_cons (as_if (t_ne gd (r_repr gd B (c_call Cis_without_squares gd (aa_cons (nv 3) aa_nil))) (r_repr gd B (r_isNil dkT gd (nv 6)))) (ass_one (as_ret ae_bl)) ass_nil)
 (ass_cons (by first | exact as_par (i := 7) (j := 8) rfl Sc.nd rfl rfl rfl rfl (am_dat (ae_add ae_int (c_callS 1 C_law_pick gd (aa_cons (ae_add (nv 4) ae_int) aa_nil))) (am_own (ao_lst aa_nil) am_nil)) | exact as_parT (i := 7) (j := 8) Sc.nd (am_dat (ae_add ae_int (c_callS 1 C_law_pick gd (aa_cons (ae_add (nv 4) ae_int) aa_nil))) (am_own (ao_lst aa_nil) am_nil)))
 (ass_cons (s_for [] (i_r1 B (aa_cons (nv 4) aa_nil)) (g_name 9 Sc.nd) (ass_cons (s_set 10 Sc.nd ae_int)
 (ass_cons (s_while [] (aw_pt (aw_and (t_lt gd (ae_add (ae_add (nv 9) (nv 10)) (nv 7)) (nv 4)) (aw_and1 (t_eq gd (r_ix (nv 3) (ae_add (nv 9) (nv 10))) (r_ix (nv 3) (ae_add (ae_add (nv 9) (nv 10)) (nv 7))))))) (ass_one (s_set 10 Sc.nd (ae_add (nv 10) ae_int))))
 (ass_one (s_app 8 (nv 10))))))
 (ass_cons (as_if (t_ne gd (r_repr gd B (c_call Clook_ahead gd (aa_cons (nv 3) (aa_cons (nv 7) aa_nil)))) (r_repr gd B (r_tupV 8 B))) (ass_one (as_ret ae_bl)) ass_nil)
 (ass_cons (by first | exact s_setLcs 11 [("place", 9)] Sc.nd (i_r1 B (aa_cons (nv 4) aa_nil)) (ct_name (j := 9) (by decide)) (fun _ _ _ _ _ => (q_name 9 Sc.nd)) (fun _ _ _ _ _ => ats_nil) | exact s_setO 11 Sc.nd (o_lcs [("place", 9)] Sc.nd (i_r1 B (aa_cons (nv 4) aa_nil)) (ct_name (j := 9) (by decide)) (fun _ _ _ _ _ => (q_name 9 Sc.nd)) (fun _ _ _ _ _ => ats_nil)))
 (ass_cons (s_for [] (ai_keys dkT (nv 6)) (g_name 12 Sc.nd) (ass_one (s_appIx 11 (r_ix (r_dget dkT gd (nv 6) (nv 12)) (ae_neg ae_int)) (ae_fdiv (r_len B (nv 12)) ae_int))))
 (ass_cons (as_if (t_ne gd (r_repr gd B (c_call Clast_lengths gd (aa_cons (nv 3) aa_nil))) (r_repr gd B (r_tuple B (ae_frz (o_lc [("lengths", 13)] Sc.nd (ai_list (nv 11)) (ct_name (j := 13) (by decide)) (fun _ _ _ _ _ => (q_name 13 Sc.nd)) (fun _ _ _ _ _ => ats_nil) (fun _ _ _ _ _ => (r_tuple B (ae_frz (o_sorted ⟨gd.1, gd.2⟩ B (nv 13)))))))))) (ass_one (as_ret ae_bl)) ass_nil)
 (ass_cons (s_for [] (ai_list (ae_slice (c_callS 1 C_law_any_order gd (aa_cons (ae_frz (o_listRg1 B (nv 4))) aa_nil)) ap_none (ap_some ae_int))) (g_name 9 Sc.nd) (ass_cons (s_set 13 Sc.nd (ae_frz (o_sorted gd B (ae_frz (o_lc [("square", 12)] Sc.nd (ai_keys dkT (nv 6)) (ct_name (j := 12) (by decide)) (fun _ _ _ _ _ => (q_name 12 Sc.nd)) (fun _ _ _ _ _ => (ats_one (t_in ⟨gd.1, gd.2⟩ (nv 9) (r_dget dkT ⟨gd.1, gd.2⟩ (nv 6) (nv 12))))) (fun _ _ _ _ _ => (ae_fdiv (r_len B (nv 12)) ae_int)))))))
 (ass_cons (as_if (t_ne gd (r_repr gd B (c_call Csquares_at gd (aa_cons (nv 3) (aa_cons (nv 9) aa_nil)))) (r_repr gd B (r_tuple B (nv 13)))) (ass_one (as_ret ae_bl)) ass_nil)
 (ass_one (as_if (t_ne gd (r_repr gd B (c_call Cstands_at gd (aa_cons (nv 3) (aa_cons (nv 9) (aa_cons (nv 7) aa_nil))))) (r_repr gd B (r_in gd (nv 7) (nv 13)))) (ass_one (as_ret ae_bl)) ass_nil)))))
 (ass_one (as_if (t_ne gd (r_repr gd B (nv 3)) (nv 5)) (ass_one (as_ret ae_bl)) ass_nil))))))))))))))
 (ass_one (as_ret (ae_and (r_eq gd (c_call Call_squares gd (aa_cons (ae_tup (aa_cons ae_int (aa_cons ae_int (aa_cons ae_int aa_nil)))) aa_nil)) (ae_tup (aa_cons (ae_tup (aa_cons ae_int (aa_cons ae_int aa_nil))) aa_nil))) (ae_one (r_eq gd (c_call Call_squares gd (aa_cons (ae_tup aa_nil) aa_nil)) (ae_tup aa_nil)))))))

theorem all_mk {l : PySem.W.OpenLaw} {w : World} {K : PySem.W.Frag} {h : Heap} {mg : Str → Option Value} {fa : Addr} (KX : K.In h) (G : h.Ns mainGlobals mg) (hfa : mg "law" = some (.ref fa))
    {flook_ahead : Addr} {oclook_ahead kVlook_ahead dclook_ahead pmlook_ahead cdlook_ahead ctlook_ahead : Value} {odlook_ahead anlook_ahead : Option Addr} {sllook_ahead : Array (Option Value)} (alook_ahead : PySem.W.nsIn K mainGlobals "look_ahead" = some (some (.ref flook_ahead))) (llook_ahead : K.lookup flook_ahead = some ⟨oclook_ahead, odlook_ahead, .func (PySem.W.fnOf "look_ahead" "look_ahead" (defArgs slook_ahead) (defBody slook_ahead) (defScope slook_ahead) .none kVlook_ahead dclook_ahead pmlook_ahead anlook_ahead cdlook_ahead ctlook_ahead), sllook_ahead⟩) (clook_ahead : PySem.W.codeIn K cdlook_ahead "look_ahead" = true) (klook_ahead : PySem.W.keepIn K (.ref flook_ahead) = true)
    {fstands_at : Addr} {ocstands_at kVstands_at dcstands_at pmstands_at cdstands_at ctstands_at : Value} {odstands_at anstands_at : Option Addr} {slstands_at : Array (Option Value)} (astands_at : PySem.W.nsIn K mainGlobals "stands_at" = some (some (.ref fstands_at))) (lstands_at : K.lookup fstands_at = some ⟨ocstands_at, odstands_at, .func (PySem.W.fnOf "stands_at" "stands_at" (defArgs sstands_at) (defBody sstands_at) (defScope sstands_at) .none kVstands_at dcstands_at pmstands_at anstands_at cdstands_at ctstands_at), slstands_at⟩) (cstands_at : PySem.W.codeIn K cdstands_at "stands_at" = true) (kstands_at : PySem.W.keepIn K (.ref fstands_at) = true)
    {fsquares_at : Addr} {ocsquares_at kVsquares_at dcsquares_at pmsquares_at cdsquares_at ctsquares_at : Value} {odsquares_at ansquares_at : Option Addr} {slsquares_at : Array (Option Value)} (asquares_at : PySem.W.nsIn K mainGlobals "squares_at" = some (some (.ref fsquares_at))) (lsquares_at : K.lookup fsquares_at = some ⟨ocsquares_at, odsquares_at, .func (PySem.W.fnOf "squares_at" "squares_at" (defArgs ssquares_at) (defBody ssquares_at) (defScope ssquares_at) .none kVsquares_at dcsquares_at pmsquares_at ansquares_at cdsquares_at ctsquares_at), slsquares_at⟩) (csquares_at : PySem.W.codeIn K cdsquares_at "squares_at" = true) (ksquares_at : PySem.W.keepIn K (.ref fsquares_at) = true)
    {fstands_of : Addr} {ocstands_of kVstands_of dcstands_of pmstands_of cdstands_of ctstands_of : Value} {odstands_of anstands_of : Option Addr} {slstands_of : Array (Option Value)} (astands_of : PySem.W.nsIn K mainGlobals "stands_of" = some (some (.ref fstands_of))) (lstands_of : K.lookup fstands_of = some ⟨ocstands_of, odstands_of, .func (PySem.W.fnOf "stands_of" "stands_of" (defArgs sstands_of) (defBody sstands_of) (defScope sstands_of) .none kVstands_of dcstands_of pmstands_of anstands_of cdstands_of ctstands_of), slstands_of⟩) (cstands_of : PySem.W.codeIn K cdstands_of "stands_of" = true) (kstands_of : PySem.W.keepIn K (.ref fstands_of) = true)
    {fall_squares : Addr} {ocall_squares kVall_squares dcall_squares pmall_squares cdall_squares ctall_squares : Value} {odall_squares anall_squares : Option Addr} {slall_squares : Array (Option Value)} (aall_squares : PySem.W.nsIn K mainGlobals "all_squares" = some (some (.ref fall_squares))) (lall_squares : K.lookup fall_squares = some ⟨ocall_squares, odall_squares, .func (PySem.W.fnOf "all_squares" "all_squares" (defArgs sall_squares) (defBody sall_squares) (defScope sall_squares) .none kVall_squares dcall_squares pmall_squares anall_squares cdall_squares ctall_squares), slall_squares⟩) (call_squares : PySem.W.codeIn K cdall_squares "all_squares" = true) (kall_squares : PySem.W.keepIn K (.ref fall_squares) = true)
    {flast_lengths : Addr} {oclast_lengths kVlast_lengths dclast_lengths pmlast_lengths cdlast_lengths ctlast_lengths : Value} {odlast_lengths anlast_lengths : Option Addr} {sllast_lengths : Array (Option Value)} (alast_lengths : PySem.W.nsIn K mainGlobals "last_lengths" = some (some (.ref flast_lengths))) (llast_lengths : K.lookup flast_lengths = some ⟨oclast_lengths, odlast_lengths, .func (PySem.W.fnOf "last_lengths" "last_lengths" (defArgs slast_lengths) (defBody slast_lengths) (defScope slast_lengths) .none kVlast_lengths dclast_lengths pmlast_lengths anlast_lengths cdlast_lengths ctlast_lengths), sllast_lengths⟩) (clast_lengths : PySem.W.codeIn K cdlast_lengths "last_lengths" = true) (klast_lengths : PySem.W.keepIn K (.ref flast_lengths) = true)
    {fis_without_squares : Addr} {ocis_without_squares kVis_without_squares dcis_without_squares pmis_without_squares cdis_without_squares ctis_without_squares : Value} {odis_without_squares anis_without_squares : Option Addr} {slis_without_squares : Array (Option Value)} (ais_without_squares : PySem.W.nsIn K mainGlobals "is_without_squares" = some (some (.ref fis_without_squares))) (lis_without_squares : K.lookup fis_without_squares = some ⟨ocis_without_squares, odis_without_squares, .func (PySem.W.fnOf "is_without_squares" "is_without_squares" (defArgs sis_without_squares) (defBody sis_without_squares) (defScope sis_without_squares) .none kVis_without_squares dcis_without_squares pmis_without_squares anis_without_squares cdis_without_squares ctis_without_squares), slis_without_squares⟩) (cis_without_squares : PySem.W.codeIn K cdis_without_squares "is_without_squares" = true) (kis_without_squares : PySem.W.keepIn K (.ref fis_without_squares) = true)
    {f_law_open_cells : Addr} {oc_law_open_cells kV_law_open_cells dc_law_open_cells pm_law_open_cells cd_law_open_cells ct_law_open_cells : Value} {od_law_open_cells an_law_open_cells : Option Addr} {sl_law_open_cells : Array (Option Value)} (a_law_open_cells : PySem.W.nsIn K mainGlobals "_law_open_cells" = some (some (.ref f_law_open_cells))) (l_law_open_cells : K.lookup f_law_open_cells = some ⟨oc_law_open_cells, od_law_open_cells, .func (PySem.W.fnOf "_law_open_cells" "_law_open_cells" (defArgs s_law_open_cells) (defBody s_law_open_cells) (defScope s_law_open_cells) .none kV_law_open_cells dc_law_open_cells pm_law_open_cells an_law_open_cells cd_law_open_cells ct_law_open_cells), sl_law_open_cells⟩) (c_law_open_cells : PySem.W.codeIn K cd_law_open_cells "_law_open_cells" = true) (k_law_open_cells : PySem.W.keepIn K (.ref f_law_open_cells) = true)
    {f_law_pick : Addr} {oc_law_pick kV_law_pick dc_law_pick pm_law_pick cd_law_pick ct_law_pick : Value} {od_law_pick an_law_pick : Option Addr} {sl_law_pick : Array (Option Value)} (a_law_pick : PySem.W.nsIn K mainGlobals "_law_pick" = some (some (.ref f_law_pick))) (l_law_pick : K.lookup f_law_pick = some ⟨oc_law_pick, od_law_pick, .func (PySem.W.fnOf "_law_pick" "_law_pick" (defArgs s_law_pick) (defBody s_law_pick) (defScope s_law_pick) .none kV_law_pick dc_law_pick pm_law_pick an_law_pick cd_law_pick ct_law_pick), sl_law_pick⟩) (c_law_pick : PySem.W.codeIn K cd_law_pick "_law_pick" = true) (k_law_pick : PySem.W.keepIn K (.ref f_law_pick) = true)
    {f_law_any_order : Addr} {oc_law_any_order kV_law_any_order dc_law_any_order pm_law_any_order cd_law_any_order ct_law_any_order : Value} {od_law_any_order an_law_any_order : Option Addr} {sl_law_any_order : Array (Option Value)} (a_law_any_order : PySem.W.nsIn K mainGlobals "_law_any_order" = some (some (.ref f_law_any_order))) (l_law_any_order : K.lookup f_law_any_order = some ⟨oc_law_any_order, od_law_any_order, .func (PySem.W.fnOf "_law_any_order" "_law_any_order" (defArgs s_law_any_order) (defBody s_law_any_order) (defScope s_law_any_order) .none kV_law_any_order dc_law_any_order pm_law_any_order an_law_any_order cd_law_any_order ct_law_any_order), sl_law_any_order⟩) (c_law_any_order : PySem.W.codeIn K cd_law_any_order "_law_any_order" = true) (k_law_any_order : PySem.W.keepIn K (.ref f_law_any_order) = true)
    {f_law_word : Addr} {oc_law_word kV_law_word dc_law_word pm_law_word cd_law_word ct_law_word : Value} {od_law_word an_law_word : Option Addr} {sl_law_word : Array (Option Value)} (a_law_word : PySem.W.nsIn K mainGlobals "_law_word" = some (some (.ref f_law_word))) (l_law_word : K.lookup f_law_word = some ⟨oc_law_word, od_law_word, .func (PySem.W.fnOf "_law_word" "_law_word" (defArgs s_law_word) (defBody s_law_word) (defScope s_law_word) .none kV_law_word dc_law_word pm_law_word an_law_word cd_law_word ct_law_word), sl_law_word⟩) (c_law_word : PySem.W.codeIn K cd_law_word "_law_word" = true) (k_law_word : PySem.W.keepIn K (.ref f_law_word) = true)
    {f_law_stands : Addr} {oc_law_stands kV_law_stands dc_law_stands pm_law_stands cd_law_stands ct_law_stands : Value} {od_law_stands an_law_stands : Option Addr} {sl_law_stands : Array (Option Value)} (a_law_stands : PySem.W.nsIn K mainGlobals "_law_stands" = some (some (.ref f_law_stands))) (l_law_stands : K.lookup f_law_stands = some ⟨oc_law_stands, od_law_stands, .func (PySem.W.fnOf "_law_stands" "_law_stands" (defArgs s_law_stands) (defBody s_law_stands) (defScope s_law_stands) .none kV_law_stands dc_law_stands pm_law_stands an_law_stands cd_law_stands ct_law_stands), sl_law_stands⟩) (c_law_stands : PySem.W.codeIn K cd_law_stands "_law_stands" = true) (k_law_stands : PySem.W.keepIn K (.ref f_law_stands) = true)
    {f_law_square_word : Addr} {oc_law_square_word kV_law_square_word dc_law_square_word pm_law_square_word cd_law_square_word ct_law_square_word : Value} {od_law_square_word an_law_square_word : Option Addr} {sl_law_square_word : Array (Option Value)} (a_law_square_word : PySem.W.nsIn K mainGlobals "_law_square_word" = some (some (.ref f_law_square_word))) (l_law_square_word : K.lookup f_law_square_word = some ⟨oc_law_square_word, od_law_square_word, .func (PySem.W.fnOf "_law_square_word" "_law_square_word" (defArgs s_law_square_word) (defBody s_law_square_word) (defScope s_law_square_word) .none kV_law_square_word dc_law_square_word pm_law_square_word an_law_square_word cd_law_square_word ct_law_square_word), sl_law_square_word⟩) (c_law_square_word : PySem.W.codeIn K cd_law_square_word "_law_square_word" = true) (k_law_square_word : PySem.W.keepIn K (.ref f_law_square_word) = true)
    {flaw : Addr} {oclaw kVlaw dclaw pmlaw cdlaw ctlaw : Value} {odlaw anlaw : Option Addr} {sllaw : Array (Option Value)} (alaw : PySem.W.nsIn K mainGlobals "law" = some (some (.ref flaw))) (llaw : K.lookup flaw = some ⟨oclaw, odlaw, .func (PySem.W.fnOf "law" "law" (defArgs slaw) (defBody slaw) (defScope slaw) .none kVlaw dclaw pmlaw anlaw cdlaw ctlaw), sllaw⟩) (claw : PySem.W.codeIn K cdlaw "law" = true) (klaw : PySem.W.keepIn K (.ref flaw) = true)
    (zlen : PySem.W.nsIn K mainGlobals "len" = some none) (zrange : PySem.W.nsIn K mainGlobals "range" = some none) (ztuple : PySem.W.nsIn K mainGlobals "tuple" = some none) (zlist : PySem.W.nsIn K mainGlobals "list" = some none) (zsorted : PySem.W.nsIn K mainGlobals "sorted" = some none) (zrepr : PySem.W.nsIn K mainGlobals "repr" = some none) (zint : PySem.W.nsIn K mainGlobals "int" = some none) (zabs : PySem.W.nsIn K mainGlobals "abs" = some none) (zmin : PySem.W.nsIn K mainGlobals "min" = some none) (zmax : PySem.W.nsIn K mainGlobals "max" = some none) (zsum : PySem.W.nsIn K mainGlobals "sum" = some none) (zany : PySem.W.nsIn K mainGlobals "any" = some none) (zall : PySem.W.nsIn K mainGlobals "all" = some none) (zisinstance : PySem.W.nsIn K mainGlobals "isinstance" = some none) (zenumerate : PySem.W.nsIn K mainGlobals "enumerate" = some none) (zzip : PySem.W.nsIn K mainGlobals "zip" = some none) (zdict : PySem.W.nsIn K mainGlobals "dict" = some none)
    : ∃ fd : FuncData, (∀ (s : Shared) (v : Value), BindsTo s fd ⟨[v], []⟩ [("script", v)]) ∧ ∀ base : Heap, K.In base → base.Ns mainGlobals mg → FnG l.prog w K mg base 7 fa fd ["script"] (spLaw K) := by
  have e := hfa.symm.trans (PySem.W.mg_of KX G alaw)
  cases e
  have Flook_ahead := fun_mk (st := slook_ahead) llook_ahead clook_ahead klook_ahead
  have Fstands_at := fun_mk (st := sstands_at) lstands_at cstands_at kstands_at
  have Fsquares_at := fun_mk (st := ssquares_at) lsquares_at csquares_at ksquares_at
  have Fstands_of := fun_mk (st := sstands_of) lstands_of cstands_of kstands_of
  have Fall_squares := fun_mk (st := sall_squares) lall_squares call_squares kall_squares
  have Flast_lengths := fun_mk (st := slast_lengths) llast_lengths clast_lengths klast_lengths
  have Fis_without_squares := fun_mk (st := sis_without_squares) lis_without_squares cis_without_squares kis_without_squares
  have F_law_open_cells := fun_mk (st := s_law_open_cells) l_law_open_cells c_law_open_cells k_law_open_cells
  have F_law_pick := fun_mk (st := s_law_pick) l_law_pick c_law_pick k_law_pick
  have F_law_any_order := fun_mk (st := s_law_any_order) l_law_any_order c_law_any_order k_law_any_order
  have F_law_word := fun_mk (st := s_law_word) l_law_word c_law_word k_law_word
  have F_law_stands := fun_mk (st := s_law_stands) l_law_stands c_law_stands k_law_stands
  have F_law_square_word := fun_mk (st := s_law_square_word) l_law_square_word c_law_square_word k_law_square_word
  have Flaw := fun_mk (st := slaw) llaw claw klaw
  have B : Blt mg := ⟨PySem.W.mg_none_of KX G zlen, PySem.W.mg_none_of KX G zrange, PySem.W.mg_none_of KX G ztuple, PySem.W.mg_none_of KX G zlist, PySem.W.mg_none_of KX G zsorted, PySem.W.mg_none_of KX G zrepr, PySem.W.mg_none_of KX G zint, PySem.W.mg_none_of KX G zabs, PySem.W.mg_none_of KX G zmin, PySem.W.mg_none_of KX G zmax, PySem.W.mg_none_of KX G zsum, PySem.W.mg_none_of KX G zany, PySem.W.mg_none_of KX G zall, PySem.W.mg_none_of KX G zisinstance, PySem.W.mg_none_of KX G zenumerate, PySem.W.mg_none_of KX G zzip, PySem.W.mg_none_of KX G zdict⟩
  refine ⟨PySem.W.fnOf "law" "law" (defArgs slaw) (defBody slaw) (defScope slaw) .none kVlaw dclaw pmlaw anlaw cdlaw ctlaw, fun s v => .of_eq rfl, fun base _ _ => ?_⟩
  have Clook_ahead : Cal l.prog w K mg base 1 "look_ahead" ["word", "length"] (prom 2 splook_ahead) := ⟨_, _, dlook_ahead B  Flook_ahead, PySem.W.mg_of KX G alook_ahead, klook_ahead, (Flook_ahead.binds (ps := ["word", "length"]) fun _ _ _ _ _ _ us hl => match us, hl with | [_, _], _ => rfl)⟩
  have Cstands_at : Cal l.prog w K mg base 2 "stands_at" ["word", "place", "length"] (prom 3 spstands_at) := ⟨_, _, dstands_at B Clook_ahead Fstands_at, PySem.W.mg_of KX G astands_at, kstands_at, (Fstands_at.binds (ps := ["word", "place", "length"]) fun _ _ _ _ _ _ us hl => match us, hl with | [_, _, _], _ => rfl)⟩
  have Csquares_at : Cal l.prog w K mg base 3 "squares_at" ["word", "place"] (prom 2 spsquares_at) := ⟨_, _, dsquares_at B Cstands_at Fsquares_at, PySem.W.mg_of KX G asquares_at, ksquares_at, (Fsquares_at.binds (ps := ["word", "place"]) fun _ _ _ _ _ _ us hl => match us, hl with | [_, _], _ => rfl)⟩
  have Cstands_of : Cal l.prog w K mg base 4 "stands_of" ["word"] (prom 1 spstands_of) := ⟨_, _, dstands_of B Csquares_at Fstands_of, PySem.W.mg_of KX G astands_of, kstands_of, (Fstands_of.binds (ps := ["word"]) fun _ _ _ _ _ _ us hl => match us, hl with | [_], _ => rfl)⟩
  have Call_squares : Cal l.prog w K mg base 5 "all_squares" ["word"] (prom 1 spall_squares) := ⟨_, _, dall_squares B Cstands_of Fall_squares, PySem.W.mg_of KX G aall_squares, kall_squares, (Fall_squares.binds (ps := ["word"]) fun _ _ _ _ _ _ us hl => match us, hl with | [_], _ => rfl)⟩
  have Clast_lengths : Cal l.prog w K mg base 5 "last_lengths" ["word"] (prom 1 splast_lengths) := ⟨_, _, dlast_lengths B Cstands_of Flast_lengths, PySem.W.mg_of KX G alast_lengths, klast_lengths, (Flast_lengths.binds (ps := ["word"]) fun _ _ _ _ _ _ us hl => match us, hl with | [_], _ => rfl)⟩
  have Cis_without_squares : Cal l.prog w K mg base 6 "is_without_squares" ["word"] (prom 1 spis_without_squares) := ⟨_, _, dis_without_squares B Call_squares Fis_without_squares, PySem.W.mg_of KX G ais_without_squares, kis_without_squares, (Fis_without_squares.binds (ps := ["word"]) fun _ _ _ _ _ _ us hl => match us, hl with | [_], _ => rfl)⟩
  have C_law_open_cells : Cal l.prog w K mg base 1 "_law_open_cells" ["script"] (spOpen K) := ⟨_, _, dopen B F_law_open_cells, PySem.W.mg_of KX G a_law_open_cells, k_law_open_cells, (F_law_open_cells.binds (ps := ["script"]) fun _ _ _ _ _ _ us hl => match us, hl with | [_], _ => rfl)⟩
  have C_law_pick : Cal l.prog w K mg base 1 "_law_pick" ["source", "most"] (promS 1 spPick) := ⟨_, _, dpick B F_law_pick, PySem.W.mg_of KX G a_law_pick, k_law_pick, (F_law_pick.binds (ps := ["source", "most"]) fun _ _ _ _ _ _ us hl => match us, hl with | [_, _], _ => rfl)⟩
  have C_law_any_order : Cal l.prog w K mg base 2 "_law_any_order" ["source", "things"] (promS 1 sp_law_any_order) := ⟨_, _, d_law_any_order B C_law_pick F_law_any_order, PySem.W.mg_of KX G a_law_any_order, k_law_any_order, (F_law_any_order.binds (ps := ["source", "things"]) fun _ _ _ _ _ _ us hl => match us, hl with | [_, _], _ => rfl)⟩
  have C_law_word : Cal l.prog w K mg base 2 "_law_word" ["source", "most", "letters"] (promS 2 sp_law_word) := ⟨_, _, d_law_word B C_law_pick F_law_word, PySem.W.mg_of KX G a_law_word, k_law_word, (F_law_word.binds (ps := ["source", "most", "letters"]) fun _ _ _ _ _ _ us hl => match us, hl with | [_, _, _], _ => rfl)⟩
  have C_law_stands : Cal l.prog w K mg base 1 "_law_stands" ["word"] (prom 1 sp_law_stands) := ⟨_, _, d_law_stands B  F_law_stands, PySem.W.mg_of KX G a_law_stands, k_law_stands, (F_law_stands.binds (ps := ["word"]) fun _ _ _ _ _ _ us hl => match us, hl with | [_], _ => rfl)⟩
  have C_law_square_word : Cal l.prog w K mg base 3 "_law_square_word" ["source", "most"] (promS 1 sp_law_square_word) := ⟨_, _, d_law_square_word B C_law_pick C_law_word F_law_square_word, PySem.W.mg_of KX G a_law_square_word, k_law_square_word, (F_law_square_word.binds (ps := ["source", "most"]) fun _ _ _ _ _ _ us hl => match us, hl with | [_, _], _ => rfl)⟩
  exact dlaw B C_law_open_cells C_law_square_word C_law_stands Call_squares Cis_without_squares C_law_pick Clook_ahead Clast_lengths C_law_any_order Csquares_at Cstands_at Flaw
end
end LW
open PySem PySem.W PyProof.Rows
set_option maxHeartbeats 0 in
theorem PySem.Challenge.cw_lettersagain_k81_squares_found_holds : PySem.Challenge.rw_lettersagain_k81_squares_found.Holds := by
  w_on; o_law; k_head; (case hw => w_witness2)
  k_fill
  refine AL.law_walk (l := PySem.Challenge.rw_lettersagain_k81_squares_found) (k := 7) (x := "script") rfl rfl ⟨rfl, by decide, by decide⟩ (fun w h Y => PySem.W.kIn_of Y) ?F
  case F =>
    intro w mg fa h KX G hmg
    refine' LW.all_mk KX G hmg ?alook_ahead ?llook_ahead ?clook_ahead ?klook_ahead ?astands_at ?lstands_at ?cstands_at ?kstands_at ?asquares_at ?lsquares_at ?csquares_at ?ksquares_at ?astands_of ?lstands_of ?cstands_of ?kstands_of ?aall_squares ?lall_squares ?call_squares ?kall_squares ?alast_lengths ?llast_lengths ?clast_lengths ?klast_lengths ?ais_without_squares ?lis_without_squares ?cis_without_squares ?kis_without_squares ?a_law_open_cells ?l_law_open_cells ?c_law_open_cells ?k_law_open_cells ?a_law_pick ?l_law_pick ?c_law_pick ?k_law_pick ?a_law_any_order ?l_law_any_order ?c_law_any_order ?k_law_any_order ?a_law_word ?l_law_word ?c_law_word ?k_law_word ?a_law_stands ?l_law_stands ?c_law_stands ?k_law_stands ?a_law_square_word ?l_law_square_word ?c_law_square_word ?k_law_square_word ?alaw ?llaw ?claw ?klaw ?zlen ?zrange ?ztuple ?zlist ?zsorted ?zrepr ?zint ?zabs ?zmin ?zmax ?zsum ?zany ?zall ?zisinstance ?zenumerate ?zzip ?zdict
    (case alook_ahead => k_is); (case llook_ahead => k_is); (case clook_ahead => k_is); (case klook_ahead => k_is); (case astands_at => k_is); (case lstands_at => k_is); (case cstands_at => k_is); (case kstands_at => k_is); (case asquares_at => k_is); (case lsquares_at => k_is); (case csquares_at => k_is); (case ksquares_at => k_is); (case astands_of => k_is); (case lstands_of => k_is); (case cstands_of => k_is); (case kstands_of => k_is); (case aall_squares => k_is); (case lall_squares => k_is); (case call_squares => k_is); (case kall_squares => k_is); (case alast_lengths => k_is); (case llast_lengths => k_is); (case clast_lengths => k_is); (case klast_lengths => k_is); (case ais_without_squares => k_is); (case lis_without_squares => k_is); (case cis_without_squares => k_is); (case kis_without_squares => k_is); (case a_law_open_cells => k_is); (case l_law_open_cells => k_is); (case c_law_open_cells => k_is); (case k_law_open_cells => k_is); (case a_law_pick => k_is); (case l_law_pick => k_is); (case c_law_pick => k_is); (case k_law_pick => k_is); (case a_law_any_order => k_is); (case l_law_any_order => k_is); (case c_law_any_order => k_is); (case k_law_any_order => k_is); (case a_law_word => k_is); (case l_law_word => k_is); (case c_law_word => k_is); (case k_law_word => k_is); (case a_law_stands => k_is); (case l_law_stands => k_is); (case c_law_stands => k_is); (case k_law_stands => k_is); (case a_law_square_word => k_is); (case l_law_square_word => k_is); (case c_law_square_word => k_is); (case k_law_square_word => k_is); (case alaw => k_is); (case llaw => k_is); (case claw => k_is); (case klaw => k_is); (case zlen => k_is); (case zrange => k_is); (case ztuple => k_is); (case zlist => k_is); (case zsorted => k_is); (case zrepr => k_is); (case zint => k_is); (case zabs => k_is); (case zmin => k_is); (case zmax => k_is); (case zsum => k_is); (case zany => k_is); (case zall => k_is); (case zisinstance => k_is); (case zenumerate => k_is); (case zzip => k_is); (case zdict => k_is)

