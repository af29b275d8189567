import PyProof.Rows.All
import Wide.All
import OpenK.AllK
import Wide.FinOn
import HandS.ForMost
import HandS.Flow
import HandS.IsInst
import HandS.SortInts
import KE.SortData
import HandS.TupSets
import HandS.SetFor
import HandS.Strs
import HandS.Star
import KE.GoesMore
import HandS.ExcOwn
import HandS.TryOnly
import HandS.WordsExc
import HandS.Spec
import PySem.Challenge.RW_rebut_k97_whole_rising_interpolants
set_option Elab.async false
set_option linter.all false
set_option maxRecDepth 100000
set_option maxHeartbeats 2000000
/-! Rb, part a: data in the heap, slots, the data-level judgements -/
namespace Rb
open PySem PySem.Spec L2

/-! ### data: sizes -/
mutual
def Sz : PyData → Prop
  | .none => True
  | .bool _ => True
  | .int _ => True
  | .str _ => True
  | .list xs => xs.length ≤ sizeLine ∧ SzA xs
  | .tuple xs => xs.length ≤ sizeLine ∧ SzA xs
  | .dict _ => False
def SzA : List PyData → Prop
  | [] => True
  | x :: xs => Sz x ∧ SzA xs
end
theorem szA_iff : ∀ xs : List PyData, SzA xs ↔ ∀ x ∈ xs, Sz x
  | [] => by simp [SzA]
  | x :: xs => by simp [SzA, szA_iff xs]
theorem sz_int (i : Int) : Sz (.int i) := by simp [Sz]
theorem sz_bool (b : Bool) : Sz (.bool b) := by simp [Sz]
theorem sz_none : Sz .none := by simp [Sz]
theorem sz_str (s : Str) : Sz (.str s) := by simp [Sz]
theorem sz_list {xs : List PyData} : Sz (.list xs) ↔ xs.length ≤ sizeLine ∧ ∀ x ∈ xs, Sz x := by rw [← szA_iff]; simp [Sz]
theorem sz_tuple {xs : List PyData} : Sz (.tuple xs) ↔ xs.length ≤ sizeLine ∧ ∀ x ∈ xs, Sz x := by rw [← szA_iff]; simp [Sz]

/-! ### v is d: all that it holds stands in F; a tuple's object is known -/
def Tp (F : Hp) (a : Addr) (xs : List V) : Prop := ∃ o : Obj, F a = some (.frz o (.tup xs)) ∧ o.dict = none
theorem Tp.mono {F F' : Hp} {a : Addr} {xs : List V} (e : Same F F') (h : Tp F a xs) : Tp F' a xs := let ⟨o, h1, h2⟩ := h; ⟨o, e _ _ h1, h2⟩
theorem Tp.sq {K : PySem.W.Frag} {F : Hp} {a : Addr} {xs : List V} (h : Tp F a xs) : SqT K F a xs := let ⟨o, h1, _⟩ := h; .inl (.inr ⟨o, h1⟩)
mutual
inductive Dq (F : Hp) : V → PyData → Prop
  | non : Dq F .non .none
  | bl (b : Bool) : Dq F (.bl b) (.bool b)
  | int (i : Int) : Dq F (.int i) (.int i)
  | str (x : Str) : Dq F (.str x) (.str x)
  | lst {a : Addr} {xs : List V} {ds : List PyData} : F a = some (.lst xs) → DqA F xs ds → Dq F (.ref a) (.list ds)
  | tup {a : Addr} {xs : List V} {ds : List PyData} : Tp F a xs → DqA F xs ds → Dq F (.ref a) (.tuple ds)
inductive DqA (F : Hp) : List V → List PyData → Prop
  | nil : DqA F [] []
  | cons {v : V} {vs : List V} {d : PyData} {ds : List PyData} : Dq F v d → DqA F vs ds → DqA F (v :: vs) (d :: ds)
end
mutual
theorem dq_dp {K : PySem.W.Frag} {H : Hp} : ∀ (d : PyData) (v : V), Dq H v d → Dp K H v d
  | .none, _, h => by cases h; exact .non
  | .bool b, _, h => by cases h; exact .bl b
  | .int i, _, h => by cases h; exact .int i
  | .str x, _, h => by cases h; exact .str x
  | .list ds, _, h => by
    cases h with
    | lst h1 h2 => exact .lst (SqL.of h1) (dqA_dp ds _ h2)
  | .tuple ds, _, h => by
    cases h with
    | tup h1 h2 => exact .tup h1.sq (dqA_dp ds _ h2)
  | .dict _, _, h => by cases h
theorem dqA_dp {K : PySem.W.Frag} {H : Hp} : ∀ (ds : List PyData) (vs : List V), DqA H vs ds → DpAll K H vs ds
  | [], _, h => by cases h; exact .nil
  | d :: ds, _, h => by
    cases h with
    | cons h1 h2 => exact .cons (dq_dp d _ h1) (dqA_dp ds _ h2)
end
mutual
theorem dq_mono {H H' : Hp} (e : Same H H') : ∀ (d : PyData) (v : V), Dq H v d → Dq H' v d
  | .none, _, h => by cases h; exact .non
  | .bool b, _, h => by cases h; exact .bl b
  | .int i, _, h => by cases h; exact .int i
  | .str x, _, h => by cases h; exact .str x
  | .list ds, _, h => by
    cases h with
    | lst h1 h2 => exact .lst (e _ _ h1) (dqA_mono e ds _ h2)
  | .tuple ds, _, h => by
    cases h with
    | tup h1 h2 => exact .tup (h1.mono e) (dqA_mono e ds _ h2)
  | .dict _, _, h => by cases h
theorem dqA_mono {H H' : Hp} (e : Same H H') : ∀ (ds : List PyData) (vs : List V), DqA H vs ds → DqA H' vs ds
  | [], _, h => by cases h; exact .nil
  | d :: ds, _, h => by
    cases h with
    | cons h1 h2 => exact .cons (dq_mono e d _ h1) (dqA_mono e ds _ h2)
end
theorem dqA_len {H : Hp} : ∀ {vs : List V} {ds : List PyData}, DqA H vs ds → vs.length = ds.length
  | _, _, .nil => rfl
  | _, _, .cons _ t => by simp [dqA_len t]
theorem dqA_get {H : Hp} : ∀ {vs : List V} {ds : List PyData} {i : Nat} {d : PyData}, DqA H vs ds → ds[i]? = some d → ∃ v, vs[i]? = some v ∧ Dq H v d
  | _, _, _, _, .nil, e => by simp at e
  | _, _, 0, _, .cons h _, e => by simp at e; subst e; exact ⟨_, rfl, h⟩
  | _, _, i + 1, d, .cons _ t, e => by
    obtain ⟨v, h1, h2⟩ := dqA_get (i := i) (d := d) t (by simpa using e)
    exact ⟨v, by simpa using h1, h2⟩
theorem dqA_get' {H : Hp} : ∀ {vs : List V} {ds : List PyData} {i : Nat} {v : V}, DqA H vs ds → vs[i]? = some v → ∃ d, ds[i]? = some d ∧ Dq H v d
  | _, _, _, _, .nil, e => by simp at e
  | _, _, 0, _, .cons h _, e => by simp at e; subst e; exact ⟨_, rfl, h⟩
  | _, _, i + 1, v, .cons _ t, e => by
    obtain ⟨d, h1, h2⟩ := dqA_get' (i := i) (v := v) t (by simpa using e)
    exact ⟨d, by simpa using h1, h2⟩
theorem dqA_app {H : Hp} : ∀ {vs us : List V} {ds es : List PyData}, DqA H vs ds → DqA H us es → DqA H (vs ++ us) (ds ++ es)
  | _, _, _, _, .nil, h => h
  | _, _, _, _, .cons h t, h' => .cons h (dqA_app t h')
theorem dqA_take {H : Hp} : ∀ {vs : List V} {ds : List PyData} (n : Nat), DqA H vs ds → DqA H (vs.take n) (ds.take n)
  | _, _, 0, _ => .nil
  | _, _, _ + 1, .nil => .nil
  | _, _, n + 1, .cons h t => .cons h (dqA_take n t)
theorem dqA_drop {H : Hp} : ∀ {vs : List V} {ds : List PyData} (n : Nat), DqA H vs ds → DqA H (vs.drop n) (ds.drop n)
  | _, _, 0, h => h
  | _, _, _ + 1, .nil => .nil
  | _, _, n + 1, .cons _ t => dqA_drop n t
theorem dqA_set {H : Hp} {v : V} {d : PyData} (h : Dq H v d) : ∀ {vs : List V} {ds : List PyData} (n : Nat), DqA H vs ds → DqA H (vs.set n v) (ds.set n d)
  | _, _, _, .nil => .nil
  | _, _, 0, .cons _ t => .cons h t
  | _, _, n + 1, .cons q t => .cons q (dqA_set h n t)
theorem dqA_ints {H : Hp} : ∀ (ns : List Int), DqA H (ns.map V.int) (ns.map PyData.int)
  | [] => .nil
  | n :: ns => .cons (.int n) (dqA_ints ns)
theorem dqA_ints_inv {H : Hp} : ∀ {ns : List Int} {vs : List V}, DqA H vs (ns.map PyData.int) → vs = ns.map V.int
  | [], _, h => by
    have h' : DqA H _ [] := h
    cases h'
    rfl
  | n :: ns, _, h => by
    have h' : DqA H _ (.int n :: ns.map PyData.int) := h
    cases h' with
    | cons h1 h2 =>
      cases h1
      rw [dqA_ints_inv h2]
      rfl

/-- v is d, within the lines of sizes -/
def Is (F : Hp) (v : V) (d : PyData) : Prop := Dq F v d ∧ Sz d
theorem Is.mono {F F' : Hp} {v : V} {d : PyData} (e : Same F F') (h : Is F v d) : Is F' v d := ⟨dq_mono e d v h.1, h.2⟩
theorem is_int {F : Hp} {i : Int} : Is F (.int i) (.int i) := ⟨.int i, sz_int i⟩
theorem is_bl {F : Hp} {b : Bool} : Is F (.bl b) (.bool b) := ⟨.bl b, sz_bool b⟩
theorem is_non {F : Hp} : Is F .non .none := ⟨.non, sz_none⟩
theorem is_str {F : Hp} {s : Str} : Is F (.str s) (.str s) := ⟨.str s, sz_str s⟩
theorem Is.int_inv {F : Hp} {v : V} {i : Int} (h : Is F v (.int i)) : v = .int i := by cases h.1; rfl
theorem Is.bl_inv {F : Hp} {v : V} {b : Bool} (h : Is F v (.bool b)) : v = .bl b := by cases h.1; rfl
theorem Is.str_inv {F : Hp} {v : V} {s : Str} (h : Is F v (.str s)) : v = .str s := by cases h.1; rfl
theorem Is.non_inv {F : Hp} {v : V} (h : Is F v .none) : v = .non := by cases h.1; rfl
theorem Is.tup_inv {F : Hp} {v : V} {ds : List PyData} (h : Is F v (.tuple ds)) : ∃ a vs, v = .ref a ∧ Tp F a vs ∧ DqA F vs ds ∧ ds.length ≤ sizeLine ∧ ∀ d ∈ ds, Sz d := by
  cases h.1 with
  | tup h1 h2 => exact ⟨_, _, rfl, h1, h2, sz_tuple.mp h.2⟩
theorem Is.lst_inv {F : Hp} {v : V} {ds : List PyData} (h : Is F v (.list ds)) : ∃ a vs, v = .ref a ∧ F a = some (.lst vs) ∧ DqA F vs ds ∧ ds.length ≤ sizeLine ∧ ∀ d ∈ ds, Sz d := by
  cases h.1 with
  | lst h1 h2 => exact ⟨_, _, rfl, h1, h2, sz_list.mp h.2⟩

/-! ### growth: (F0, H0) at the entry, (F, H) now; F is the part that holds data and never changes -/
structure Gw (F0 H0 F H : Hp) : Prop where
  hh : Same H0 H
  ff : Same F0 F
  fh : Same F H
  nw : ∀ a o, F a = some o → F0 a = some o ∨ H0 a = none
theorem Gw.refl {F H : Hp} (h : Same F H) : Gw F H F H := ⟨Same.refl _, Same.refl _, h, fun _ _ e => .inl e⟩
theorem Gw.trans {F0 H0 F1 H1 F2 H2 : Hp} (a : Gw F0 H0 F1 H1) (b : Gw F1 H1 F2 H2) : Gw F0 H0 F2 H2 :=
  ⟨a.hh.trans b.hh, a.ff.trans b.ff, b.fh, fun x o e => by
    rcases b.nw x o e with q | q
    · exact a.nw x o q
    · exact .inr (a.hh.free q)⟩
theorem same_new {H : Hp} {p : Addr} {o : HO} (h : H p = none) : Same H (upd H p o) := fun b u e => by
  rw [upd_ne (ne_of_none e h)]; exact e
theorem same_upd2 {F H : Hp} {p : Addr} {o : HO} (e : Same F H) : Same (upd F p o) (upd H p o) := fun b u q => by
  by_cases hb : b = p
  · subst hb; rw [upd_same] at q ⊢; exact q
  · rw [upd_ne hb] at q ⊢; exact e _ _ q
/-- a new object that is data -/
theorem Gw.dat {F H : Hp} {p : Addr} {o : HO} (e : Same F H) (h : H p = none) : Gw F H (upd F p o) (upd H p o) :=
  ⟨same_new h, same_new (e.free h), same_upd2 e, fun b u q => by
    by_cases hb : b = p
    · exact .inr (by rw [hb]; exact h)
    · rw [upd_ne hb] at q; exact .inl q⟩
/-- a new object that is none -/
theorem Gw.new {F H : Hp} {p : Addr} {o : HO} (e : Same F H) (h : H p = none) : Gw F H F (upd H p o) :=
  ⟨same_new h, Same.refl _, e.trans (same_new h), fun _ _ q => .inl q⟩
theorem Gw.stays {F0 H0 F H : Hp} (g : Gw F0 H0 F H) {a : Addr} {o : HO} (h : F0 a = none) (q : H0 a = some o) : F a = none := by
  cases e : F a with
  | none => rfl
  | some u =>
    rcases g.nw a u e with z | z
    · rw [h] at z; cases z
    · rw [q] at z; cases z
/-- an object that the entry does not know is changed -/
theorem Gw.put {F0 H0 F H : Hp} (g : Gw F0 H0 F H) {a : Addr} {o : HO} (h0 : H0 a = none) (hf : F a = none) : Gw F0 H0 F (upd H a o) :=
  ⟨fun b u e => by rw [upd_ne (ne_of_none e h0)]; exact g.hh _ _ e, g.ff, fun b u e => by rw [upd_ne (ne_of_none e hf)]; exact g.fh _ _ e, g.nw⟩

/-! ### slots -/
inductive Sl where
  | any
  | dat (d : PyData)
  | own (a : Addr) (P : List PyData → Prop)
  | dct (a : Addr) (kvs : List (Key × V))
  | obj (a C : Addr) (fs : List (Str × PyData))
def Sl.adr : Sl → Option Addr
  | .own a _ => some a
  | .dct a _ => some a
  | _ => none
/-- a field that holds d; the mark .dict: no such field -/
def FldOk (F : Hp) (vs : List (Str × V)) (f : Str) : PyData → Prop
  | .dict _ => vs.lookup f = none
  | d => ∃ v, vs.lookup f = some v ∧ Is F v d
theorem FldOk.mono {F F' : Hp} {vs : List (Str × V)} {f : Str} {d : PyData} (h : FldOk F vs f d) (e : Same F F') : FldOk F' vs f d := by
  cases d with
  | dict _ => exact h
  | none => obtain ⟨v, q1, q2⟩ := h; exact ⟨v, q1, q2.mono e⟩
  | bool _ => obtain ⟨v, q1, q2⟩ := h; exact ⟨v, q1, q2.mono e⟩
  | int _ => obtain ⟨v, q1, q2⟩ := h; exact ⟨v, q1, q2.mono e⟩
  | str _ => obtain ⟨v, q1, q2⟩ := h; exact ⟨v, q1, q2.mono e⟩
  | list _ => obtain ⟨v, q1, q2⟩ := h; exact ⟨v, q1, q2.mono e⟩
  | tuple _ => obtain ⟨v, q1, q2⟩ := h; exact ⟨v, q1, q2.mono e⟩
/-- what a slot's object holds -/
def MutOk (H0 F H : Hp) : Sl → Prop
  | .own a P => H0 a = none ∧ F a = none ∧ ∃ vs ds, H a = some (.lst vs) ∧ DqA F vs ds ∧ (∀ d ∈ ds, Sz d) ∧ vs.length ≤ sizeLine ∧ P ds
  | .dct a kvs => H0 a = none ∧ F a = none ∧ H a = some (.dK kvs)
  | .obj a C fs => ∃ dx vs, H a = some (.ins C dx vs) ∧ ∀ f d, fs.lookup f = some d → FldOk F vs f d
  | _ => True
def SlOk (H0 F H : Hp) (x : Option V) : Sl → Prop
  | .any => True
  | .dat d => ∃ v, x = some v ∧ Is F v d
  | .own a P => x = some (.ref a) ∧ MutOk H0 F H (.own a P)
  | .dct a kvs => x = some (.ref a) ∧ MutOk H0 F H (.dct a kvs)
  | .obj a C fs => x = some (.ref a) ∧ MutOk H0 F H (.obj a C fs)
theorem SlOk.mut {H0 F H : Hp} {x : Option V} {s : Sl} (h : SlOk H0 F H x s) : MutOk H0 F H s := by
  cases s with
  | any => trivial
  | dat d => trivial
  | own a P => exact h.2
  | dct a kvs => exact h.2
  | obj a C fs => exact h.2
theorem MutOk.mono {H0 F H F' H' : Hp} {s : Sl} (g : Gw F H F' H') (h : MutOk H0 F H s) : MutOk H0 F' H' s := by
  cases s with
  | any => trivial
  | dat d => trivial
  | own a P =>
    obtain ⟨h1, h2, vs, ds, h3, h4, h5⟩ := h
    exact ⟨h1, g.stays h2 h3, vs, ds, g.hh _ _ h3, dqA_mono g.ff _ _ h4, h5⟩
  | dct a kvs =>
    obtain ⟨h1, h2, h3⟩ := h
    exact ⟨h1, g.stays h2 h3, g.hh _ _ h3⟩
  | obj a C fs =>
    obtain ⟨dx, vs, h1, h2⟩ := h
    exact ⟨dx, vs, g.hh _ _ h1, fun f d e => (h2 f d e).mono g.ff⟩
theorem SlOk.mono {H0 F H F' H' : Hp} {x : Option V} {s : Sl} (g : Gw F H F' H') (h : SlOk H0 F H x s) : SlOk H0 F' H' x s := by
  cases s with
  | any => trivial
  | dat d => obtain ⟨v, e, q⟩ := h; exact ⟨v, e, q.mono g.ff⟩
  | own a P => exact ⟨h.1, MutOk.mono g h.2⟩
  | dct a kvs => exact ⟨h.1, MutOk.mono g h.2⟩
  | obj a C fs => exact ⟨h.1, MutOk.mono g h.2⟩
structure Rep (H0 : Hp) (ρ : List Sl) (σ : St) (F H : Hp) : Prop where
  len : ρ.length = σ.length
  ok : ∀ (i : Nat) (s : Sl), ρ[i]? = some s → ∃ x, σ[i]? = some x ∧ SlOk H0 F H x s
  ap : ∀ (i j : Nat) (s t : Sl) (a : Addr), ρ[i]? = some s → ρ[j]? = some t → s.adr = some a → t.adr = some a → i = j
theorem Rep.mono {H0 F H F' H' : Hp} {ρ : List Sl} {σ : St} (g : Gw F H F' H') (h : Rep H0 ρ σ F H) : Rep H0 ρ σ F' H' :=
  ⟨h.len, fun i s e => let ⟨x, q1, q2⟩ := h.ok i s e; ⟨x, q1, q2.mono g⟩, h.ap⟩
theorem Rep.dat {H0 F H : Hp} {ρ : List Sl} {σ : St} (h : Rep H0 ρ σ F H) {i : Nat} {d : PyData} (e : ρ[i]? = some (.dat d)) : ∃ v, σ[i]? = some (some v) ∧ Is F v d := by
  obtain ⟨x, q1, v, rfl, q⟩ := h.ok i _ e
  exact ⟨v, q1, q⟩
theorem Rep.set {H0 F H : Hp} {ρ : List Sl} {σ : St} (h : Rep H0 ρ σ F H) {i : Nat} {s : Sl} {v : V} (q : SlOk H0 F H (some v) s) (hn : ∀ a, s.adr = some a → ∀ (j : Nat) (t : Sl), ρ[j]? = some t → t.adr = some a → j = i) : Rep H0 (ρ.set i s) (σ.set i (some v)) F H := by
  refine ⟨by rw [List.length_set, List.length_set]; exact h.len, fun j t e => ?_, fun j k t u a e1 e2 a1 a2 => ?_⟩
  · rw [List.getElem?_set] at e
    split at e
    · rename_i hij
      subst hij
      split at e
      · rename_i hl
        cases e
        refine ⟨some v, ?_, q⟩
        rw [List.getElem?_set_self (by rw [← h.len]; exact hl)]
      · cases e
    · rename_i hij
      obtain ⟨x, q1, q2⟩ := h.ok j t e
      exact ⟨x, by rw [List.getElem?_set_ne hij]; exact q1, q2⟩
  · rw [List.getElem?_set] at e1 e2
    split at e1
    · rename_i h1
      split at e2
      · rename_i h2; rw [← h1, ← h2]
      · rename_i h2
        split at e1
        · cases e1
          exact (h1.symm.trans (hn a a1 k u e2 a2).symm)
        · cases e1
    · rename_i h1
      split at e2
      · rename_i h2
        split at e2
        · cases e2
          exact ((hn a a2 j t e1 a1).trans h2)
        · cases e2
      · exact h.ap j k t u a e1 e2 a1 a2
theorem Rep.setD {H0 F H : Hp} {ρ : List Sl} {σ : St} (h : Rep H0 ρ σ F H) {i : Nat} {d : PyData} {v : V} (q : Is F v d) : Rep H0 (ρ.set i (.dat d)) (σ.set i (some v)) F H :=
  h.set (s := .dat d) ⟨v, rfl, q⟩ (fun a e => by cases e)
/-- a slot forgotten -/
theorem Rep.forget {H0 F H : Hp} {ρ : List Sl} {σ : St} (h : Rep H0 ρ σ F H) (i : Nat) (x : Option V) : Rep H0 (ρ.set i .any) (σ.set i x) F H := by
  refine ⟨by rw [List.length_set, List.length_set]; exact h.len, fun j t e => ?_, fun j k t u a e1 e2 a1 a2 => ?_⟩
  · rw [List.getElem?_set] at e
    split at e
    · rename_i hij
      subst hij
      split at e
      · rename_i hl
        cases e
        exact ⟨x, by rw [List.getElem?_set_self (by rw [← h.len]; exact hl)], trivial⟩
      · cases e
    · rename_i hij
      obtain ⟨y, q1, q2⟩ := h.ok j t e
      exact ⟨y, by rw [List.getElem?_set_ne hij]; exact q1, q2⟩
  · rw [List.getElem?_set] at e1 e2
    split at e1
    · split at e1
      · cases e1; cases a1
      · cases e1
    · split at e2
      · split at e2
        · cases e2; cases a2
        · cases e2
      · exact h.ap j k t u a e1 e2 a1 a2

/-! ### the data-level readings -/
def tE (ρ : List Sl) (P : PyData → Prop) : TE := fun σ H Q => ∃ F0 H0 F, Gw F0 H0 F H ∧ Rep H0 ρ σ F H ∧
  ∀ v d F' H', P d → Gw F0 H0 F' H' → Same F F' → Rep H0 ρ σ F' H' → Is F' v d → Q v H'
def tQ (ρ : List Sl) (P : Bool → Prop) : TT := fun σ H Q => ∃ F0 H0 F, Gw F0 H0 F H ∧ Rep H0 ρ σ F H ∧
  ∀ b F' H', P b → Gw F0 H0 F' H' → Same F F' → Rep H0 ρ σ F' H' → Q b H'
abbrev ArOk (H0 F H : Hp) : List V → List Sl → Prop := Paired fun v s => SlOk H0 F H (some v) s
def tA (ρ : List Sl) (P : List Sl → Prop) : TA := fun σ H Q => ∃ F0 H0 F, Gw F0 H0 F H ∧ Rep H0 ρ σ F H ∧
  ∀ vs as F' H', P as → Gw F0 H0 F' H' → Same F F' → Rep H0 ρ σ F' H' → ArOk H0 F' H' vs as → Q vs H'
/-- outcomes of statements -/
inductive Out where
  | nx (ρ : List Sl)
  | rt (d : PyData) (ρ : List Sl)
  | ro (P : List PyData → Prop) (ρ : List Sl)
def Cont (F0 H0 F : Hp) (D : Ends) : Out → Prop
  | .nx ρ => ∀ σ' F' H', Gw F0 H0 F' H' → Same F F' → Rep H0 ρ σ' F' H' → D.nx σ' H'
  | .rt d ρ => ∀ v σ' F' H', Gw F0 H0 F' H' → Same F F' → Rep H0 ρ σ' F' H' → Is F' v d → D.rt v H'
  | .ro P ρ => ∀ p σ' F' H', Gw F0 H0 F' H' → Same F F' → Rep H0 ρ σ' F' H' → MutOk H0 F' H' (.own p P) → D.rt (.ref p) H'
def tS (ρ : List Sl) (P : Out → Prop) : TS := fun D σ H => ∃ F0 H0 F, Gw F0 H0 F H ∧ Rep H0 ρ σ F H ∧ ∀ o, P o → Cont F0 H0 F D o
theorem Cont.mono {F0 H0 F F' : Hp} {D : Ends} {o : Out} (e : Same F F') (h : Cont F0 H0 F D o) : Cont F0 H0 F' D o := by
  cases o with
  | nx ρ => exact fun σ' F2 H2 g s r => h σ' F2 H2 g (e.trans s) r
  | rt d ρ => exact fun v σ' F2 H2 g s r i => h v σ' F2 H2 g (e.trans s) r i
  | ro P ρ => exact fun p σ' F2 H2 g s r i => h p σ' F2 H2 g (e.trans s) r i

abbrev DP (X : Cx) (ρ : List Sl) (e : Expr) (P : PyData → Prop) : Prop := PE X e (tE ρ P)
abbrev DE (X : Cx) (ρ : List Sl) (e : Expr) (d : PyData) : Prop := DP X ρ e (fun x => x = d)
abbrev DQ (X : Cx) (ρ : List Sl) (e : Expr) (P : Bool → Prop) : Prop := PT X e (tQ ρ P)
abbrev DT (X : Cx) (ρ : List Sl) (e : Expr) (b : Bool) : Prop := DQ X ρ e (fun x => x = b)
abbrev DA (X : Cx) (ρ : List Sl) (es : List Expr) (P : List Sl → Prop) : Prop := PA X es (tA ρ P)
abbrev DS (X : Cx) (ρ : List Sl) (st : List Stmt) (P : Out → Prop) : Prop := PSs X st (tS ρ P)

section
variable {X : Cx} {ρ : List Sl} {e : Expr}
theorem PE.weak {t t' : TE} (h : PE X e t) (w : ∀ σ H Q, t' σ H Q → t σ H Q) : PE X e t' := ⟨fun pins s σ H Q I q => h.run pins s σ H Q I (w σ H Q q)⟩
theorem PT.weak {t t' : TT} (h : PT X e t) (w : ∀ σ H Q, t' σ H Q → t σ H Q) : PT X e t' := ⟨fun pins s σ H Q I q => h.run pins s σ H Q I (w σ H Q q)⟩
theorem PW.weak {t t' : TT} (h : PW X e t) (w : ∀ σ H Q, t' σ H Q → t σ H Q) : PW X e t' := ⟨fun wh pins s σ H Q I q => h.run wh pins s σ H Q I (w σ H Q q)⟩
theorem PA.weak {es : List Expr} {t t' : TA} (h : PA X es t) (w : ∀ σ H Q, t' σ H Q → t σ H Q) : PA X es t' := ⟨fun pos pins s σ H Q I q => h.run pos pins s σ H Q I (w σ H Q q)⟩
theorem PS.weak {st : Stmt} {t t' : TS} (h : PS X st t) (w : ∀ D σ H, t' D σ H → t D σ H) : PS X st t' := ⟨fun pins s σ H D I q => h.run pins s σ H D I (w D σ H q)⟩
theorem PSs.weak {st : List Stmt} {t t' : TS} (h : PSs X st t) (w : ∀ D σ H, t' D σ H → t D σ H) : PSs X st t' := ⟨fun pins s σ H D I q => h.run pins s σ H D I (w D σ H q)⟩

/-! ### from primitive readings: a value that needs nothing new -/
theorem DP.imp {P P' : PyData → Prop} (h : DP X ρ e P) (i : ∀ d, P d → P' d) : DP X ρ e P' :=
  PE.weak h fun σ H Q ⟨F0, H0, F, g, r, k⟩ => ⟨F0, H0, F, g, r, fun v d F' H' p => k v d F' H' (i d p)⟩
theorem DE.to {d d' : PyData} (h : DE X ρ e d) (q : d = d') : DE X ρ e d' := q ▸ h
theorem DE.p {d : PyData} {P : PyData → Prop} (h : DE X ρ e d) (q : P d) : DP X ρ e P := DP.imp h fun x hx => by rw [hx]; exact q
theorem DQ.imp {P P' : Bool → Prop} (h : DQ X ρ e P) (i : ∀ d, P d → P' d) : DQ X ρ e P' :=
  PT.weak h fun σ H Q ⟨F0, H0, F, g, r, k⟩ => ⟨F0, H0, F, g, r, fun d F' H' p => k d F' H' (i d p)⟩
theorem DT.to {b b' : Bool} (h : DT X ρ e b) (q : b = b') : DT X ρ e b' := q ▸ h
theorem DS.imp {st : List Stmt} {P P' : Out → Prop} (h : DS X ρ st P) (i : ∀ o, P o → P' o) : DS X ρ st P' :=
  PSs.weak h fun D σ H ⟨F0, H0, F, g, r, k⟩ => ⟨F0, H0, F, g, r, fun o p => k o (i o p)⟩
end
end Rb
/-! Rb, part b: expressions -/
namespace Rb
open PySem PySem.Spec L2

def BN : List Str := ["len", "sorted", "set", "tuple", "list", "abs", "max", "int", "isinstance", "range", "enumerate", "bool", "str"]
def visB (sc : Scope) (x : Str) : Bool := (match sc.names.lookup x with | some .local => true | some .cell => true | some .free => true | _ => false) && !(x == ("__debug__" : Str)) && !(x == ("__classdict__" : Str))
def glB (sc : Scope) (x : Str) : Bool := (match sc.names.lookup x with | some .globalImplicit => true | _ => false) && !(x == ("__debug__" : Str))
/-- where one stands: a def's body, or a comprehension's block within it -/
class Fx (X : Cx) (sc : outParam Scope) (N : outParam (List Str)) (k : outParam Nat) : Prop where
  hN : X.N = N
  nd : N.Nodup
  hsc : X.env.scope = sc
  kind : X.env.scope.kind = .function
  calm : X.calm = true
  room : Room k X.A
  bn : ∀ x ∈ BN, X.mg x = none
  xe : X.xe = fun _ _ => False
theorem vis_of {X : Cx} {x : Str} {sc : Scope} (e : X.env.scope = sc) (h : visB sc x = true) : Vis X.env.scope x ∧ (x == ("__debug__" : Str)) = false ∧ (x == ("__classdict__" : Str)) = false := by
  rw [e]
  unfold visB at h
  simp only [Bool.and_eq_true, Bool.not_eq_true'] at h
  obtain ⟨⟨h1, h2⟩, h3⟩ := h
  refine ⟨?_, h2, h3⟩
  unfold Vis
  split at h1 <;> first | exact .inl (by assumption) | exact .inr (.inl (by assumption)) | exact .inr (.inr (by assumption)) | cases h1
theorem gl_of {X : Cx} {x : Str} {sc : Scope} (e : X.env.scope = sc) (h : glB sc x = true) : Gl X x ∧ (x == ("__debug__" : Str)) = false := by
  unfold glB at h
  simp only [Bool.and_eq_true, Bool.not_eq_true'] at h
  obtain ⟨h1, h2⟩ := h
  refine ⟨?_, h2⟩
  unfold Gl Env.kindOf
  rw [e]
  split at h1 <;> first | assumption | cases h1

def isNo : PyData → Bool
  | .none => true
  | _ => false
section
variable {X : Cx} {ρ : List Sl} {sc : Scope} {N : List Str} {k : Nat} {a b c e : Expr} {pos : Pos} {P Pa Pb : PyData → Prop} {d da db : PyData}

/-! ### names, constants -/
theorem e_v [fx : Fx X sc N k] (i : Nat) {x : Str} (hi : N[i]? = some x) (hρ : ρ[i]? = some (.dat d)) (hv : visB sc x = true := by decide +kernel) : DE X ρ (.Name x pos) d := by
  obtain ⟨h1, h2, h3⟩ := vis_of (X := X) fx.hsc hv
  refine PE.weak (pe_var (i := i) (by rw [fx.hN]; exact hi) h1 h2 h3) fun σ H Q ⟨F0, H0, F, g, r, q⟩ => ?_
  obtain ⟨v, e1, e2⟩ := r.dat hρ
  exact ⟨v, e1, q v d F H rfl g (Same.refl _) r e2⟩
theorem e_c {v : V} (he : PE X e (tC v)) (hi : ∀ F, Is F v d) : DE X ρ e d :=
  PE.weak he fun σ H Q ⟨F0, H0, F, g, r, q⟩ => q v d F H rfl g (Same.refl _) r (hi F)
theorem e_int {i : Int} {j : Nat} : DE X ρ (.Constant (.int i) j pos) (.int i) := e_c pe_int fun _ => is_int
theorem e_bl {i : Bool} {j : Nat} : DE X ρ (.Constant (.bool i) j pos) (.bool i) := e_c pe_bl fun _ => is_bl
theorem e_non {j : Nat} : DE X ρ (.Constant .none j pos) .none := e_c pe_non fun _ => is_non
theorem e_str {s : Str} {j : Nat} : DE X ρ (.Constant (.str s) j pos) (.str s) := e_c pe_str fun _ => is_str

/-! ### two operands, one operand, arguments -/
def Step2 (r : R2) (Pa Pb P : PyData → Prop) : Prop := ∀ (F H : Hp) (x y : V) (da db : PyData) (Q : VK), Same F H → Is F x da → Is F y db → Pa da → Pb db →
  (∀ v d F' H', P d → Gw F H F' H' → Is F' v d → Q v H') → r x y H Q
theorem tOp_of {r : R2} (hr : Step2 r Pa Pb P) : ∀ σ H Q, tE ρ P σ H Q → tOp r (tE ρ Pa) (tE ρ Pb) σ H Q := fun σ H Q ⟨F0, H0, F, g, rp, q⟩ =>
  ⟨F0, H0, F, g, rp, fun x da F1 H1 pa g1 s1 r1 i1 => ⟨F0, H0, F1, g1, r1, fun y db F2 H2 pb g2 s2 r2 i2 =>
    hr F2 H2 x y da db Q g2.fh (i1.mono s2) i2 pa pb fun v d F' H' p gw is => q v d F' H' p (g2.trans gw) (s1.trans (s2.trans gw.ff)) (r2.mono gw) is⟩⟩
def Step1 (r : V → Hp → VK → Prop) (Pa P : PyData → Prop) : Prop := ∀ (F H : Hp) (x : V) (da : PyData) (Q : VK), Same F H → Is F x da → Pa da →
  (∀ v d F' H', P d → Gw F H F' H' → Is F' v d → Q v H') → r x H Q
theorem tUn_of {r : V → Hp → VK → Prop} (hr : Step1 r Pa P) : ∀ σ H Q, tE ρ P σ H Q → tUn r (tE ρ Pa) σ H Q := fun σ H Q ⟨F0, H0, F, g, rp, q⟩ =>
  ⟨F0, H0, F, g, rp, fun x da F1 H1 pa g1 s1 r1 i1 => hr F1 H1 x da Q g1.fh i1 pa fun v d F' H' p gw is => q v d F' H' p (g1.trans gw) (s1.trans gw.ff) (r1.mono gw) is⟩
theorem DP.op {op : Operator} {r : R2} (ho : OpR X (binaryOp op) r) (ha : DP X ρ a Pa) (hb : DP X ρ b Pb) (hr : Step2 r Pa Pb P) : DP X ρ (.BinOp a op b pos) P := PE.weak (pe_op ho ha hb) (tOp_of hr)
theorem DP.un {op : UnaryOp} {r : V → Hp → VK → Prop} (ho : UnR X (unaryOp op) r) (ha : DP X ρ a Pa) (hr : Step1 r Pa P) : DP X ρ (.UnaryOp op a pos) P := PE.weak (pe_un ho ha) (tUn_of hr)
theorem DP.cmp {op : CmpOp} {r : R2} (ho : OpR X (compareOp op) r) (ha : DP X ρ a Pa) (hb : DP X ρ b Pb) (hr : Step2 r Pa Pb P) (hm : behindInMarks op b = false) : DP X ρ (.Compare a [op] [b] pos) P := PE.weak (pe_cmpR ho ha hb hm) (tOp_of hr)
theorem DP.ix {r : R2} (ho : IxR X r) (ha : DP X ρ a Pa) (hb : DP X ρ b Pb) (hr : Step2 r Pa Pb P) (hs : PlainIx b) : DP X ρ (.Subscript a b pos) P := PE.weak (pe_ix ho ha hb hs) (tOp_of hr)
/-- the callee of a built-in's call, one argument -/
def StepC (r : List V → Hp → VK → Prop) (Pa P : PyData → Prop) : Prop := Step1 (fun x H Q => r [x] H Q) Pa P
theorem tCB_of {r : List V → Hp → VK → Prop} (hr : StepC r Pa P) : ∀ σ H Q, tE ρ P σ H Q → tCB r (tCons (tE ρ Pa) tNil) σ H Q := fun σ H Q ⟨F0, H0, F, g, rp, q⟩ =>
  ⟨F0, H0, F, g, rp, fun x da F1 H1 pa g1 s1 r1 i1 => hr F1 H1 x da Q g1.fh i1 pa fun v d F' H' p gw is => q v d F' H' p (g1.trans gw) (s1.trans gw.ff) (r1.mono gw) is⟩
theorem DP.callB [fx : Fx X sc N k] {x : Str} {id : String} {p : Pos} {r : List V → Hp → VK → Prop} (hc : CallR X (.builtin id) r) (ha : DP X ρ a Pa) (hr : StepC r Pa P) (hb : x ∈ BN) (hv : bootBuiltins x = some (.builtin id)) (hn : x ≠ "__name__") (hd : (x == ("__debug__" : Str)) = false)
    (hg : glB sc x = true) (he : starEach [a] X.env = [(false, eval a X.env)] := by rfl) (hpl : (backTo pos (starEach [] X.env)).any (·.1) = false := by rfl) : DP X ρ (.Call (.Name x p) [a] [] pos) P :=
  PE.weak (pe_callB hc (gl_of fx.hsc hg).1 (fx.bn x hb) hv (pa_cons ha pa_nil he) hn hd he hpl) (tCB_of hr)
theorem DP.callTy [fx : Fx X sc N k] {x : Str} {id : String} {p : Pos} {r : List V → Hp → VK → Prop} (hc : CallR X (.type id) r) (ha : DP X ρ a Pa) (hr : StepC r Pa P) (hb : x ∈ BN) (hv : bootBuiltins x = some (.type id)) (hn : x ≠ "__name__") (hd : (x == ("__debug__" : Str)) = false)
    (hg : glB sc x = true) (he : starEach [a] X.env = [(false, eval a X.env)] := by rfl) (hpl : (backTo pos (starEach [] X.env)).any (·.1) = false := by rfl) : DP X ρ (.Call (.Name x p) [a] [] pos) P :=
  PE.weak (pe_callTy hc (gl_of fx.hsc hg).1 (fx.bn x hb) hv (pa_cons ha pa_nil he) hn hd he hpl) (tCB_of hr)

/-! ### whole numbers -/
theorem s2_int {g : Int → Int → V} {f : Int → Int → PyData} (hg : ∀ i j F, Is F (g i j) (f i j)) {i j : Int} : Step2 (rI0 g) (fun x => x = .int i) (fun x => x = .int j) (fun x => x = f i j) := by
  intro F H x y da db Q s i1 i2 pa pb q
  subst pa; subst pb
  exact ⟨i, j, i1.int_inv, i2.int_inv, q _ _ F H rfl (Gw.refl s) (hg i j F)⟩
theorem s2_intC {C : Int → Int → Prop} {g : Int → Int → V} {f : Int → Int → PyData} (hg : ∀ i j F, Is F (g i j) (f i j)) {i j : Int} (hC : C i j) : Step2 (rI C g) (fun x => x = .int i) (fun x => x = .int j) (fun x => x = f i j) := by
  intro F H x y da db Q s i1 i2 pa pb q
  subst pa; subst pb
  exact ⟨i, j, i1.int_inv, i2.int_inv, hC, q _ _ F H rfl (Gw.refl s) (hg i j F)⟩
variable {i j : Int}
theorem e_add (ha : DE X ρ a (.int i)) (hb : DE X ρ b (.int j)) : DE X ρ (.BinOp a .Add b pos) (.int (i + j)) := DP.op op_add ha hb (s2_int (f := fun i j => .int (i + j)) fun _ _ _ => is_int)
theorem e_sub (ha : DE X ρ a (.int i)) (hb : DE X ρ b (.int j)) : DE X ρ (.BinOp a .Sub b pos) (.int (i - j)) := DP.op op_sub ha hb (s2_int (f := fun i j => .int (i - j)) fun _ _ _ => is_int)
theorem e_mul (ha : DE X ρ a (.int i)) (hb : DE X ρ b (.int j)) (hc : CMul i j) : DE X ρ (.BinOp a .Mult b pos) (.int (i * j)) := DP.op op_mul ha hb (s2_intC (f := fun i j => .int (i * j)) (fun _ _ _ => is_int) hc)
theorem e_mod (ha : DE X ρ a (.int i)) (hb : DE X ρ b (.int j)) (hc : 0 < j) : DE X ρ (.BinOp a .Mod b pos) (.int (i % j)) := DP.op op_mod ha hb (s2_intC (C := fun _ j => 0 < j) (f := fun i j => .int (i % j)) (fun _ _ _ => is_int) hc)
theorem e_fdiv (ha : DE X ρ a (.int i)) (hb : DE X ρ b (.int j)) (hc : CDiv i j) : DE X ρ (.BinOp a .FloorDiv b pos) (.int (i / j)) := DP.op op_fdiv ha hb (s2_intC (f := fun i j => .int (i / j)) (fun _ _ _ => is_int) hc)
theorem e_shl (ha : DE X ρ a (.int i)) (hb : DE X ρ b (.int j)) (hc : CPow i j) : DE X ρ (.BinOp a .LShift b pos) (.int (i * 2 ^ j.toNat)) := DP.op op_shl ha hb (s2_intC (f := fun i j => .int (i * 2 ^ j.toNat)) (fun _ _ _ => is_int) hc)
theorem e_neg (ha : DE X ρ a (.int i)) : DE X ρ (.UnaryOp .USub a pos) (.int (-i)) := DP.un un_neg ha (by
  intro F H x da Q s i1 pa q
  subst pa
  exact ⟨i, i1.int_inv, q _ _ F H rfl (Gw.refl s) is_int⟩)
theorem e_lt (ha : DE X ρ a (.int i)) (hb : DE X ρ b (.int j)) : DE X ρ (.Compare a [.Lt] [b] pos) (.bool (decide (i < j))) := DP.cmp op_lt ha hb (s2_int (f := fun i j => .bool (decide (i < j))) fun _ _ _ => is_bl) (nomark _)
theorem e_le (ha : DE X ρ a (.int i)) (hb : DE X ρ b (.int j)) : DE X ρ (.Compare a [.LtE] [b] pos) (.bool (decide (i ≤ j))) := DP.cmp op_le ha hb (s2_int (f := fun i j => .bool (decide (i ≤ j))) fun _ _ _ => is_bl) (nomark _)
theorem e_gt (ha : DE X ρ a (.int i)) (hb : DE X ρ b (.int j)) : DE X ρ (.Compare a [.Gt] [b] pos) (.bool (decide (j < i))) := DP.cmp op_gt ha hb (s2_int (f := fun i j => .bool (decide (j < i))) fun _ _ _ => is_bl) (nomark _)
theorem e_ge (ha : DE X ρ a (.int i)) (hb : DE X ρ b (.int j)) : DE X ρ (.Compare a [.GtE] [b] pos) (.bool (decide (j ≤ i))) := DP.cmp op_ge ha hb (s2_int (f := fun i j => .bool (decide (j ≤ i))) fun _ _ _ => is_bl) (nomark _)
theorem s2_eq {x' y' : V} {bb : Bool} (hx : ∀ F x, Is F x da → x = x') (hy : ∀ F y, Is F y db → y = y') (hs : scal x' y' = true) (hb : decide (x' = y') = bb) : Step2 rEq (fun x => x = da) (fun x => x = db) (fun x => x = .bool bb) := by
  intro F H x y da db Q s i1 i2 pa pb q
  subst pa; subst pb
  rw [hx F x i1, hy F y i2]
  exact ⟨hs, q _ _ F H rfl (Gw.refl s) (by rw [hb]; exact is_bl)⟩
theorem s2_ne {x' y' : V} {bb : Bool} (hx : ∀ F x, Is F x da → x = x') (hy : ∀ F y, Is F y db → y = y') (hs : scal x' y' = true) (hb : decide (x' = y') = bb) : Step2 rNe (fun x => x = da) (fun x => x = db) (fun x => x = .bool (!bb)) := by
  intro F H x y da db Q s i1 i2 pa pb q
  subst pa; subst pb
  rw [hx F x i1, hy F y i2]
  exact ⟨hs, q _ _ F H rfl (Gw.refl s) (by rw [hb]; exact is_bl)⟩
theorem dec_i : decide (V.int i = V.int j) = decide (i = j) := by rw [dec_int]; exact Bool.beq_eq_decide_eq i j
theorem dec_b {s t : Bool} : decide (V.bl s = V.bl t) = decide (s = t) := by rw [dec_bl]; exact Bool.beq_eq_decide_eq s t
theorem dec_s {s t : Str} : decide (V.str s = V.str t) = decide (s = t) := decide_eq_decide.mpr ⟨fun h => V.str.inj h, fun h => by rw [h]⟩
theorem e_eq (ha : DE X ρ a (.int i)) (hb : DE X ρ b (.int j)) : DE X ρ (.Compare a [.Eq] [b] pos) (.bool (decide (i = j))) := DP.cmp op_eq ha hb (s2_eq (fun _ _ h => h.int_inv) (fun _ _ h => h.int_inv) rfl dec_i) (nomark _)
theorem e_ne (ha : DE X ρ a (.int i)) (hb : DE X ρ b (.int j)) : DE X ρ (.Compare a [.NotEq] [b] pos) (.bool (!decide (i = j))) := DP.cmp op_ne ha hb (s2_ne (fun _ _ h => h.int_inv) (fun _ _ h => h.int_inv) rfl dec_i) (nomark _)
theorem e_eqB {s t : Bool} (ha : DE X ρ a (.bool s)) (hb : DE X ρ b (.bool t)) : DE X ρ (.Compare a [.Eq] [b] pos) (.bool (decide (s = t))) := DP.cmp op_eq ha hb (s2_eq (fun _ _ h => h.bl_inv) (fun _ _ h => h.bl_inv) rfl dec_b) (nomark _)
theorem e_neB {s t : Bool} (ha : DE X ρ a (.bool s)) (hb : DE X ρ b (.bool t)) : DE X ρ (.Compare a [.NotEq] [b] pos) (.bool (!decide (s = t))) := DP.cmp op_ne ha hb (s2_ne (fun _ _ h => h.bl_inv) (fun _ _ h => h.bl_inv) rfl dec_b) (nomark _)
theorem e_eqS {s t : Str} (ha : DE X ρ a (.str s)) (hb : DE X ρ b (.str t)) : DE X ρ (.Compare a [.Eq] [b] pos) (.bool (decide (s = t))) := DP.cmp op_eq ha hb (s2_eq (fun _ _ h => h.str_inv) (fun _ _ h => h.str_inv) rfl dec_s) (nomark _)
theorem e_isN {j : Nat} {p : Pos} (ha : DE X ρ a d) : DE X ρ (.Compare a [.Is] [.Constant .none j p] pos) (.bool (isNo d)) := by
  refine PE.weak (pe_cmpR op_isN ha pe_non (nomark _)) fun σ H Q ⟨F0, H0, F, g, rp, q⟩ => ?_
  refine ⟨F0, H0, F, g, rp, fun x da F1 H1 pa g1 s1 r1 i1 => ⟨rfl, ?_⟩⟩
  subst pa
  refine q _ _ F1 H1 rfl g1 s1 r1 ?_
  have e : decide (x = V.non) = isNo da := by
    cases i1.1 <;> simp [isNo]
  rw [e]
  exact is_bl
theorem e_notN {j : Nat} {p : Pos} (ha : DE X ρ a d) : DE X ρ (.Compare a [.IsNot] [.Constant .none j p] pos) (.bool (!isNo d)) := by
  refine PE.weak (pe_cmpR op_notN ha pe_non (nomark _)) fun σ H Q ⟨F0, H0, F, g, rp, q⟩ => ?_
  refine ⟨F0, H0, F, g, rp, fun x da F1 H1 pa g1 s1 r1 i1 => ⟨rfl, ?_⟩⟩
  subst pa
  refine q _ _ F1 H1 rfl g1 s1 r1 ?_
  have e : (!decide (x = V.non)) = !isNo da := by
    cases i1.1 <;> simp [isNo]
  rw [e]
  exact is_bl

/-! ### in, not in -/
theorem inV_ints (ns : List Int) : inV (.int i) (ns.map V.int) = decide (i ∈ ns) := by
  unfold inV
  induction ns with
  | nil => simp
  | cons n ns ih =>
    rw [List.map_cons, List.any_cons, ih]
    show ((n == i) || _) = _
    by_cases h : n = i
    · subst h; simp
    · have h2 : (n == i) = false := beq_eq_false_iff_ne.mpr h
      have h3 : ¬ i = n := fun q => h q.symm
      rw [h2, Bool.false_or]
      simp [h3]
theorem inV_strs (s : Str) (ss : List Str) : inV (.str s) (ss.map V.str) = decide (s ∈ ss) := by
  unfold inV
  induction ss with
  | nil => simp
  | cons n ns ih =>
    rw [List.map_cons, List.any_cons, ih]
    show ((n == s) || _) = _
    by_cases h : n = s
    · subst h; simp
    · have h2 : (n == s) = false := beq_eq_false_iff_ne.mpr h
      have h3 : ¬ s = n := fun q => h q.symm
      rw [h2, Bool.false_or]
      simp [h3]
theorem flat_ints (ns : List Int) : (ns.map V.int).all flatV = true := by
  induction ns with
  | nil => rfl
  | cons n ns ih => rw [List.map_cons, List.all_cons, ih]; rfl
theorem flat_ss (ns : List Str) : (ns.map V.str).all flatV = true := by
  induction ns with
  | nil => rfl
  | cons n ns ih => rw [List.map_cons, List.all_cons, ih]; rfl
theorem dqA_strs_inv {F : Hp} : ∀ {ns : List Str} {vs : List V}, DqA F vs (ns.map PyData.str) → vs = ns.map V.str
  | [], _, h => by
    have h' : DqA F _ [] := h
    cases h'
    rfl
  | n :: ns, _, h => by
    have h' : DqA F _ (.str n :: ns.map PyData.str) := h
    cases h' with
    | cons h1 h2 =>
      cases h1
      rw [dqA_strs_inv h2]
      rfl
theorem s2_inT {K : PySem.W.Frag} {ns : List Int} (neg : Bool) : Step2 (rIn K neg) (fun x => x = .int i) (fun x => x = .tuple (ns.map .int)) (fun x => x = .bool (if neg then !decide (i ∈ ns) else decide (i ∈ ns))) := by
  intro F H x y da db Q s i1 i2 pa pb q
  subst pa; subst pb
  obtain ⟨p, vs, rfl, h1, h2, _⟩ := i2.tup_inv
  have h3 := dqA_ints_inv h2
  subst h3
  rw [i1.int_inv]
  refine ⟨p, _, rfl, .inr (h1.mono s).sq, rfl, flat_ints ns, ?_⟩
  rw [inV_ints]
  exact q _ _ F H rfl (Gw.refl s) is_bl
theorem s2_inL {K : PySem.W.Frag} {ns : List Int} (neg : Bool) : Step2 (rIn K neg) (fun x => x = .int i) (fun x => x = .list (ns.map .int)) (fun x => x = .bool (if neg then !decide (i ∈ ns) else decide (i ∈ ns))) := by
  intro F H x y da db Q s i1 i2 pa pb q
  subst pa; subst pb
  obtain ⟨p, vs, rfl, h1, h2, _⟩ := i2.lst_inv
  have h3 := dqA_ints_inv h2
  subst h3
  rw [i1.int_inv]
  refine ⟨p, _, rfl, .inl (SqL.of (s _ _ h1)), rfl, flat_ints ns, ?_⟩
  rw [inV_ints]
  exact q _ _ F H rfl (Gw.refl s) is_bl
theorem s2_inS {K : PySem.W.Frag} {z : Str} {ns : List Str} (neg : Bool) : Step2 (rIn K neg) (fun x => x = .str z) (fun x => x = .tuple (ns.map .str)) (fun x => x = .bool (if neg then !decide (z ∈ ns) else decide (z ∈ ns))) := by
  intro F H x y da db Q s i1 i2 pa pb q
  subst pa; subst pb
  obtain ⟨p, vs, rfl, h1, h2, _⟩ := i2.tup_inv
  have h3 := dqA_strs_inv h2
  subst h3
  rw [i1.str_inv]
  refine ⟨p, _, rfl, .inr (h1.mono s).sq, rfl, flat_ss ns, ?_⟩
  rw [inV_strs]
  exact q _ _ F H rfl (Gw.refl s) is_bl
variable {ns : List Int}
theorem e_inT (ha : DE X ρ a (.int i)) (hb : DE X ρ b (.tuple (ns.map .int))) (hm : behindInMarks .In b = false := by rfl) : DE X ρ (.Compare a [.In] [b] pos) (.bool (decide (i ∈ ns))) := DP.cmp op_in_seq ha hb (s2_inT false) hm
theorem e_niT (ha : DE X ρ a (.int i)) (hb : DE X ρ b (.tuple (ns.map .int))) (hm : behindInMarks .NotIn b = false := by rfl) : DE X ρ (.Compare a [.NotIn] [b] pos) (.bool (!decide (i ∈ ns))) := DP.cmp op_notIn_seq ha hb (s2_inT true) hm
theorem e_inL (ha : DE X ρ a (.int i)) (hb : DE X ρ b (.list (ns.map .int))) (hm : behindInMarks .In b = false := by rfl) : DE X ρ (.Compare a [.In] [b] pos) (.bool (decide (i ∈ ns))) := DP.cmp op_in_seq ha hb (s2_inL false) hm
theorem e_niL (ha : DE X ρ a (.int i)) (hb : DE X ρ b (.list (ns.map .int))) (hm : behindInMarks .NotIn b = false := by rfl) : DE X ρ (.Compare a [.NotIn] [b] pos) (.bool (!decide (i ∈ ns))) := DP.cmp op_notIn_seq ha hb (s2_inL true) hm
theorem e_inS {z : Str} {ss : List Str} (ha : DE X ρ a (.str z)) (hb : DE X ρ b (.tuple (ss.map .str))) (hm : behindInMarks .In b = false := by rfl) : DE X ρ (.Compare a [.In] [b] pos) (.bool (decide (z ∈ ss))) := DP.cmp op_in_seq ha hb (s2_inS false) hm

/-! ### subscripts -/
theorem atI_dq {F : Hp} {vs : List V} {ds : List PyData} (h : DqA F vs ds) (e : atI ds i = some d) : ∃ v, atI vs i = some v ∧ Dq F v d := by
  unfold atI at e ⊢
  rw [dqA_len h]
  cases q : ixN ds.length i with
  | none => rw [q] at e; cases e
  | some j =>
    rw [q] at e
    obtain ⟨v, h1, h2⟩ := dqA_get h (show ds[j]? = some d from e)
    exact ⟨v, h1, h2⟩
theorem atI_mem {α : Type} {xs : List α} {x : α} (e : atI xs i = some x) : x ∈ xs := by
  obtain ⟨j, _, h, _⟩ := atI_get e
  exact List.mem_of_getElem? h
theorem s2_ixT {K : PySem.W.Frag} {ds : List PyData} (e : atI ds i = some d) : Step2 (rIxT K) (fun x => x = .tuple ds) (fun x => x = .int i) (fun x => x = d) := by
  intro F H x y da db Q s i1 i2 pa pb q
  subst pa; subst pb
  obtain ⟨p, vs, rfl, h1, h2, _, h4⟩ := i1.tup_inv
  obtain ⟨v, e1, e2⟩ := atI_dq h2 e
  exact ⟨p, vs, i, v, rfl, i2.int_inv, (h1.mono s).sq, e1, q _ _ F H rfl (Gw.refl s) ⟨e2, h4 _ (atI_mem e)⟩⟩
theorem s2_ixL {K : PySem.W.Frag} {ds : List PyData} (e : atI ds i = some d) : Step2 (rIxL K) (fun x => x = .list ds) (fun x => x = .int i) (fun x => x = d) := by
  intro F H x y da db Q s i1 i2 pa pb q
  subst pa; subst pb
  obtain ⟨p, vs, rfl, h1, h2, _, h4⟩ := i1.lst_inv
  obtain ⟨v, e1, e2⟩ := atI_dq h2 e
  exact ⟨p, vs, i, v, rfl, i2.int_inv, SqL.of (s _ _ h1), e1, q _ _ F H rfl (Gw.refl s) ⟨e2, h4 _ (atI_mem e)⟩⟩
variable {ds : List PyData}
theorem e_ixT (ha : DE X ρ a (.tuple ds)) (hb : DE X ρ b (.int i)) (e : atI ds i = some d) (hs : PlainIx b := by exact fun _ _ => rfl) : DE X ρ (.Subscript a b pos) d := DP.ix ix_tup ha hb (s2_ixT e) hs
theorem e_ixL (ha : DE X ρ a (.list ds)) (hb : DE X ρ b (.int i)) (e : atI ds i = some d) (hs : PlainIx b := by exact fun _ _ => rfl) : DE X ρ (.Subscript a b pos) d := DP.ix ix_list ha hb (s2_ixL e) hs
theorem atI_map {α : Type} {xs : List α} (f : α → PyData) : atI (xs.map f) i = (atI xs i).map f := by
  unfold atI
  rw [List.length_map]
  cases ixN xs.length i with
  | none => rfl
  | some j => simp
theorem atI_nn {α : Type} {xs : List α} {j : Nat} {x : α} (h : xs[j]? = some x) : atI xs (j : Int) = some x := atI_nat h
theorem atI_m1 {α : Type} {xs : List α} {x : α} (h : xs.getLast? = some x) : atI xs (-1) = some x := by
  have hne : xs ≠ [] := by
    rintro rfl
    cases h
  have e := List.dropLast_concat_getLast hne
  rw [List.getLast?_eq_some_getLast hne] at h
  rw [← e, Option.some.inj h]
  exact atI_last _ _

/-! ### displays, len, list, tuple -/
theorem a_nil : DA X ρ [] (fun as => as = []) := PA.weak pa_nil fun σ H Q ⟨F0, H0, F, g, r, q⟩ => q [] [] F H rfl g (Same.refl _) r .nil
theorem SlOk.rep {H0 F H : Hp} {σ : St} (r : Rep H0 ρ σ F H) {n : Nat} {s : Sl} (h : ρ[n]? = some s) : MutOk H0 F H s := let ⟨_, _, q⟩ := r.ok n s h; q.mut
theorem a_dat {es : List Expr} {Ps : List Sl → Prop} (ha : DP X ρ a Pa) (hr : DA X ρ es Ps) (hs : starEach (a :: es) X.env = (false, eval a X.env) :: starEach es X.env := by rfl) : DA X ρ (a :: es) (fun as => ∃ d r, as = .dat d :: r ∧ Pa d ∧ Ps r) :=
  PA.weak (pa_cons ha hr hs) fun σ H Q ⟨F0, H0, F, g, r, q⟩ => ⟨F0, H0, F, g, r, fun v d F1 H1 p1 g1 s1 r1 i1 => ⟨F0, H0, F1, g1, r1, fun vs as F2 H2 p2 g2 s2 r2 i2 =>
    q (v :: vs) (.dat d :: as) F2 H2 ⟨d, as, rfl, p1, p2⟩ g2 (s1.trans s2) r2 (.cons ⟨v, rfl, i1.mono s2⟩ i2)⟩⟩
theorem a_d {es : List Expr} {as : List Sl} (ha : DE X ρ a d) (hr : DA X ρ es (fun x => x = as)) (hs : starEach (a :: es) X.env = (false, eval a X.env) :: starEach es X.env := by rfl) : DA X ρ (a :: es) (fun x => x = .dat d :: as) :=
  PA.weak (a_dat ha hr hs) fun σ H Q ⟨F0, H0, F, g, r, q⟩ => ⟨F0, H0, F, g, r, fun vs bs F1 H1 p1 => by
    obtain ⟨d', r', rfl, rfl, rfl⟩ := p1
    exact q vs _ F1 H1 rfl⟩
/-- an own list handed on -/
theorem a_o [fx : Fx X sc N k] (n : Nat) {x : Str} {s : Sl} {es : List Expr} {as : List Sl} {A : Addr} (hi : N[n]? = some x) (hρ : ρ[n]? = some s) (hA : s.adr = some A) (hr : DA X ρ es (fun x => x = as)) (hv : visB sc x = true := by decide +kernel) (hs : starEach (.Name x pos :: es) X.env = (false, eval (.Name x pos) X.env) :: starEach es X.env := by rfl) : DA X ρ (.Name x pos :: es) (fun y => y = s :: as) := by
  obtain ⟨h1, h2, h3⟩ := vis_of (X := X) fx.hsc hv
  refine PA.weak (pa_cons (pe_var (i := n) (by rw [fx.hN]; exact hi) h1 h2 h3) hr hs) fun σ H Q ⟨F0, H0, F, g, r, q⟩ => ?_
  obtain ⟨y, q1, q2⟩ := r.ok n s hρ
  have e : y = some (.ref A) := by
    cases s <;> cases hA
    · exact q2.1
    · exact q2.1
  subst e
  refine ⟨_, q1, F0, H0, F, g, r, fun vs bs F1 H1 p1 g1 s1 r1 i1 => ?_⟩
  refine q _ _ F1 H1 (by rw [p1]) g1 s1 r1 (.cons ?_ i1)
  obtain ⟨z, z1, z2⟩ := r1.ok n s hρ
  rw [q1] at z1
  cases z1
  exact z2
theorem ar_dats {H0 F H : Hp} : ∀ {vs : List V} {ds : List PyData}, ArOk H0 F H vs (ds.map .dat) → DqA F vs ds ∧ ∀ d ∈ ds, Sz d
  | _, [], h => by
    cases h
    exact ⟨.nil, fun _ h => by cases h⟩
  | _, d :: ds, h => by
    cases h with
    | cons h1 h2 =>
      obtain ⟨v, e, q⟩ := h1
      cases e
      obtain ⟨i1, i2⟩ := ar_dats h2
      refine ⟨.cons q.1 i1, fun x hx => ?_⟩
      rcases List.mem_cons.mp hx with rfl | hx
      · exact q.2
      · exact i2 x hx
/-- a display of a tuple, its object known -/
def tTupF (t : TA) : TE := fun σ H Q => t σ H fun xs H1 => xs.length ≤ sizeLine ∧ ∀ p o, H1 p = none → o.dict = none → Q (.ref p) (upd H1 p (.frz o (.tup xs)))
theorem pe_tupF {es : List Expr} {t : TA} {x1 : Nat} (h : PA X es t) : PE X (.Tuple es x1 pos) (tTupF t) := by
  refine ⟨fun pins s σ H Q I hq => ?_⟩
  refine wpAny_Tuple_spliced (thn (h.run pos pins s σ H _ I hq) fun us s1 ⟨xs, H1, I1, r, z, q⟩ => ⟨by rw [← r.length]; exact z, ?_⟩)
  have hf : H1 s1.heap.objs.size = none := I1.hok.fresh (Nat.le_refl _)
  have hg : (s1.heap.push ({ cls := .type "tuple", data := .seq us.toArray } : Obj)).get? s1.heap.objs.size = some { cls := .type "tuple", data := .seq us.toArray } := Heap.get?_push_size _ rfl
  exact ⟨.ref s1.heap.objs.size, upd H1 s1.heap.objs.size (.frz { cls := .type "tuple", data := .seq us.toArray } (.tup xs)), I1.laid (t' := s1.toks) (fun b u e => Heap.get?_push_of_some _ e) (Nat.le_refl _) ⟨hg, z, us, r, ⟨_, hg, rfl, _, rfl⟩⟩, rfl, q _ _ hf rfl⟩
theorem tp_new {F : Hp} {p : Addr} {o : Obj} {vs : List V} (h : o.dict = none) : Tp (upd F p (.frz o (.tup vs))) p vs := ⟨o, upd_same, h⟩
theorem e_tup {es : List Expr} {x1 : Nat} (h : DA X ρ es (fun x => x = ds.map .dat)) (hl : ds.length ≤ sizeLine := by exact Nat.le_of_ble_eq_true rfl) : DE X ρ (.Tuple es x1 pos) (.tuple ds) := by
  refine PE.weak (pe_tupF h) fun σ H Q ⟨F0, H0, F, g, r, q⟩ => ⟨F0, H0, F, g, r, fun vs as F1 H1 p1 g1 s1 r1 i1 => ?_⟩
  subst p1
  obtain ⟨i2, i3⟩ := ar_dats i1
  have hlen : vs.length = ds.length := dqA_len i2
  refine ⟨by omega, fun p o hp ho => ?_⟩
  have gw := Gw.dat (o := .frz o (.tup vs)) g1.fh hp
  exact q _ _ _ _ rfl (g1.trans gw) (s1.trans gw.ff) (r1.mono gw) ⟨.tup (tp_new ho) (dqA_mono gw.ff _ _ i2), sz_tuple.mpr ⟨hl, i3⟩⟩
theorem e_lst {es : List Expr} (h : DA X ρ es (fun x => x = ds.map .dat)) (hl : ds.length ≤ sizeLine := by exact Nat.le_of_ble_eq_true rfl) : DE X ρ (.List es pos) (.list ds) := by
  refine PE.weak (pe_lst h) fun σ H Q ⟨F0, H0, F, g, r, q⟩ => ⟨F0, H0, F, g, r, fun vs as F1 H1 p1 g1 s1 r1 i1 => ?_⟩
  subst p1
  obtain ⟨i2, i3⟩ := ar_dats i1
  have hlen : vs.length = ds.length := dqA_len i2
  refine ⟨by omega, fun p hp => ?_⟩
  have gw := Gw.dat (o := .lst vs) g1.fh hp
  exact q _ _ _ _ rfl (g1.trans gw) (s1.trans gw.ff) (r1.mono gw) ⟨.lst upd_same (dqA_mono gw.ff _ _ i2), sz_list.mpr ⟨hl, i3⟩⟩
end
end Rb
/-! Rb, part c: tests, built-ins, calls -/
namespace Rb
open PySem PySem.Spec L2
section
variable {X : Cx} {ρ : List Sl} {sc : Scope} {N : List Str} {k : Nat} {a b c e : Expr} {rest : List Expr} {pos : Pos} {P Pa Pb : PyData → Prop} {d da db : PyData} {i j : Int} {ds es : List PyData} {ns : List Int}

/-! ### tests -/
theorem q_val {Pq : Bool → Prop} (h : DP X ρ e (fun d => ∃ b, d = .bool b ∧ Pq b)) (he : ∀ whole, isTrue e X.env whole = (do let v ← whole; standAt e.pos; holding [v] (truthy v)) := by intro _; rfl) : DQ X ρ e Pq :=
  PT.weak (pt_val h he) fun σ H Q ⟨F0, H0, F, g, r, q⟩ => ⟨F0, H0, F, g, r, fun v d F1 H1 p1 g1 s1 r1 i1 => by
    obtain ⟨b, rfl, pb⟩ := p1
    exact ⟨b, i1.bl_inv, q b F1 H1 pb g1 s1 r1⟩⟩
theorem t_val {bb : Bool} (h : DE X ρ e (.bool bb)) (he : ∀ whole, isTrue e X.env whole = (do let v ← whole; standAt e.pos; holding [v] (truthy v)) := by intro _; rfl) : DT X ρ e bb :=
  q_val (DP.imp h fun d hd => ⟨bb, hd, rfl⟩) he
abbrev DW (X : Cx) (ρ : List Sl) (e : Expr) (P : Bool → Prop) : Prop := PW X e (tQ ρ P)
theorem pw_false {e : Expr} : PW X e (fun _ _ _ => False) := ⟨fun _ _ _ _ _ _ _ h => h.elim⟩
theorem pt_false {e : Expr} : PT X e (fun _ _ _ => False) := ⟨fun _ _ _ _ _ _ h => h.elim⟩
theorem pe_false {e : Expr} : PE X e (fun _ _ _ => False) := ⟨fun _ _ _ _ _ _ h => h.elim⟩
theorem pss_false {st : List Stmt} : PSs X st (fun _ _ _ => False) := ⟨fun _ _ _ _ _ _ h => h.elim⟩
theorem w_1a {Pq : Bool → Prop} (h : DQ X ρ a Pq) : DW X ρ (.BoolOp .And [a] pos) Pq := pw_and1 h
theorem w_1o {Pq : Bool → Prop} (h : DQ X ρ a Pq) : DW X ρ (.BoolOp .Or [a] pos) Pq := pw_or1 h
theorem w_andP {Qa Qb Qc : Bool → Prop} (ha : DQ X ρ a Qa) (hb : Qa true → DW X ρ (.BoolOp .And (b :: rest) pos) Qb) (h1 : Qa false → Qc false) (h2 : ∀ x, Qa true → Qb x → Qc x) : DW X ρ (.BoolOp .And (a :: b :: rest) pos) Qc := by
  by_cases q : Qa true
  · refine PW.weak (pw_and ha (hb q)) fun σ H Q ⟨F0, H0, F, g, r, k⟩ => ⟨F0, H0, F, g, r, fun x F1 H1 p1 g1 s1 r1 => ?_⟩
    cases x with
    | false =>
      rw [if_neg Bool.false_ne_true]
      exact k false F1 H1 (h1 p1) g1 s1 r1
    | true =>
      rw [if_pos rfl]
      exact ⟨F0, H0, F1, g1, r1, fun y F2 H2 p2 g2 s2 r2 => k y F2 H2 (h2 y q p2) g2 (s1.trans s2) r2⟩
  · refine PW.weak (pw_and ha pw_false) fun σ H Q ⟨F0, H0, F, g, r, k⟩ => ⟨F0, H0, F, g, r, fun x F1 H1 p1 g1 s1 r1 => ?_⟩
    cases x with
    | false =>
      rw [if_neg Bool.false_ne_true]
      exact k false F1 H1 (h1 p1) g1 s1 r1
    | true => exact (q p1).elim
theorem w_orP {Qa Qb Qc : Bool → Prop} (ha : DQ X ρ a Qa) (hb : Qa false → DW X ρ (.BoolOp .Or (b :: rest) pos) Qb) (h1 : Qa true → Qc true) (h2 : ∀ x, Qa false → Qb x → Qc x) : DW X ρ (.BoolOp .Or (a :: b :: rest) pos) Qc := by
  by_cases q : Qa false
  · refine PW.weak (pw_or ha (hb q)) fun σ H Q ⟨F0, H0, F, g, r, k⟩ => ⟨F0, H0, F, g, r, fun x F1 H1 p1 g1 s1 r1 => ?_⟩
    cases x with
    | true =>
      rw [if_pos rfl]
      exact k true F1 H1 (h1 p1) g1 s1 r1
    | false =>
      rw [if_neg Bool.false_ne_true]
      exact ⟨F0, H0, F1, g1, r1, fun y F2 H2 p2 g2 s2 r2 => k y F2 H2 (h2 y q p2) g2 (s1.trans s2) r2⟩
  · refine PW.weak (pw_or ha pw_false) fun σ H Q ⟨F0, H0, F, g, r, k⟩ => ⟨F0, H0, F, g, r, fun x F1 H1 p1 g1 s1 r1 => ?_⟩
    cases x with
    | true =>
      rw [if_pos rfl]
      exact k true F1 H1 (h1 p1) g1 s1 r1
    | false => exact (q p1).elim
theorem w_and {ba bb : Bool} (ha : DT X ρ a ba) (hb : ba = true → DW X ρ (.BoolOp .And (b :: rest) pos) (fun x => x = bb)) : DW X ρ (.BoolOp .And (a :: b :: rest) pos) (fun x => x = (ba && bb)) :=
  w_andP ha (fun h => hb h.symm) (fun h => by rw [← h]; rfl) (fun x h1 h2 => by rw [← h1, h2]; rfl)
theorem w_or {ba bb : Bool} (ha : DT X ρ a ba) (hb : ba = false → DW X ρ (.BoolOp .Or (b :: rest) pos) (fun x => x = bb)) : DW X ρ (.BoolOp .Or (a :: b :: rest) pos) (fun x => x = (ba || bb)) :=
  w_orP ha (fun h => hb h.symm) (fun h => by rw [← h]; rfl) (fun x h1 h2 => by rw [← h1, h2]; rfl)
theorem t_w {Pq : Bool → Prop} (h : DW X ρ e Pq) : DQ X ρ e Pq := h.pt
theorem t_and {ba bb : Bool} (ha : DT X ρ a ba) (hb : ba = true → DT X ρ b bb) : DT X ρ (.BoolOp .And [a, b] pos) (ba && bb) := t_w (w_and ha fun h => w_1a (hb h))
theorem t_or {ba bb : Bool} (ha : DT X ρ a ba) (hb : ba = false → DT X ρ b bb) : DT X ρ (.BoolOp .Or [a, b] pos) (ba || bb) := t_w (w_or ha fun h => w_1o (hb h))
theorem q_not {Qa : Bool → Prop} (ha : DQ X ρ a Qa) : DQ X ρ (.UnaryOp .Not a pos) (fun x => Qa (!x)) :=
  PT.weak (pt_not ha) fun σ H Q ⟨F0, H0, F, g, r, k⟩ => ⟨F0, H0, F, g, r, fun x F1 H1 p1 g1 s1 r1 => k (!x) F1 H1 (by show Qa (!!x); rw [Bool.not_not]; exact p1) g1 s1 r1⟩
theorem t_not {ba : Bool} (ha : DT X ρ a ba) : DT X ρ (.UnaryOp .Not a pos) (!ba) := DQ.imp (q_not ha) fun x hx => by rw [← hx, Bool.not_not]
/-- values by and, or, not of truth values -/
theorem e_1 {op : BoolOp} (h : DE X ρ a d) : DE X ρ (.BoolOp op [a] pos) d := pe_one h
theorem e_and {ba bb : Bool} (ha : DE X ρ a (.bool ba)) (hb : ba = true → DE X ρ (.BoolOp .And (b :: rest) pos) (.bool bb)) : DE X ρ (.BoolOp .And (a :: b :: rest) pos) (.bool (ba && bb)) := by
  cases ba with
  | true =>
    refine PE.weak (pe_and ha (hb rfl)) fun σ H Q ⟨F0, H0, F, g, r, k⟩ => ⟨F0, H0, F, g, r, fun v d F1 H1 p1 g1 s1 r1 i1 => ?_⟩
    subst p1
    refine ⟨true, i1.bl_inv, ?_⟩
    rw [if_pos rfl]
    exact ⟨F0, H0, F1, g1, r1, fun w d F2 H2 p2 g2 s2 r2 i2 => k w d F2 H2 p2 g2 (s1.trans s2) r2 i2⟩
  | false =>
    refine PE.weak (pe_and ha pe_false) fun σ H Q ⟨F0, H0, F, g, r, k⟩ => ⟨F0, H0, F, g, r, fun v d F1 H1 p1 g1 s1 r1 i1 => ?_⟩
    subst p1
    refine ⟨false, i1.bl_inv, ?_⟩
    rw [if_neg Bool.false_ne_true]
    exact k _ _ F1 H1 rfl g1 s1 r1 is_bl
theorem e_or {ba bb : Bool} (ha : DE X ρ a (.bool ba)) (hb : ba = false → DE X ρ (.BoolOp .Or (b :: rest) pos) (.bool bb)) : DE X ρ (.BoolOp .Or (a :: b :: rest) pos) (.bool (ba || bb)) := by
  cases ba with
  | false =>
    refine PE.weak (pe_or ha (hb rfl)) fun σ H Q ⟨F0, H0, F, g, r, k⟩ => ⟨F0, H0, F, g, r, fun v d F1 H1 p1 g1 s1 r1 i1 => ?_⟩
    subst p1
    refine ⟨false, i1.bl_inv, ?_⟩
    rw [if_neg Bool.false_ne_true]
    exact ⟨F0, H0, F1, g1, r1, fun w d F2 H2 p2 g2 s2 r2 i2 => k w d F2 H2 p2 g2 (s1.trans s2) r2 i2⟩
  | true =>
    refine PE.weak (pe_or ha pe_false) fun σ H Q ⟨F0, H0, F, g, r, k⟩ => ⟨F0, H0, F, g, r, fun v d F1 H1 p1 g1 s1 r1 i1 => ?_⟩
    subst p1
    refine ⟨true, i1.bl_inv, ?_⟩
    rw [if_pos rfl]
    exact k _ _ F1 H1 rfl g1 s1 r1 is_bl
theorem e_not {ba : Bool} (ha : DE X ρ a (.bool ba)) : DE X ρ (.UnaryOp .Not a pos) (.bool (!ba)) :=
  PE.weak (pe_not ha) fun σ H Q ⟨F0, H0, F, g, r, k⟩ => ⟨F0, H0, F, g, r, fun v d F1 H1 p1 g1 s1 r1 i1 => by
    subst p1
    exact ⟨ba, i1.bl_inv, k _ _ F1 H1 rfl g1 s1 r1 is_bl⟩⟩
theorem e_ifP {Qc : Bool → Prop} (hc : DQ X ρ c Qc) (ha : Qc true → DP X ρ a P) (hb : Qc false → DP X ρ b P) : DP X ρ (.IfExp c a b pos) P := by
  have one : ∀ {x : Expr} {q : Prop}, (q → DP X ρ x P) → PE X x (fun σ H Q => q ∧ tE ρ P σ H Q) := fun {x q} h => ⟨fun pins s σ H Q I w => (h w.1).run pins s σ H Q I w.2⟩
  refine PE.weak (pe_ifExp hc (one ha) (one hb)) fun σ H Q ⟨F0, H0, F, g, r, k⟩ => ⟨F0, H0, F, g, r, fun x F1 H1 p1 g1 s1 r1 => ?_⟩
  cases x with
  | true =>
    rw [if_pos rfl]
    exact ⟨p1, F0, H0, F1, g1, r1, fun w d F2 H2 p2 g2 s2 r2 i2 => k w d F2 H2 p2 g2 (s1.trans s2) r2 i2⟩
  | false =>
    rw [if_neg Bool.false_ne_true]
    exact ⟨p1, F0, H0, F1, g1, r1, fun w d F2 H2 p2 g2 s2 r2 i2 => k w d F2 H2 p2 g2 (s1.trans s2) r2 i2⟩
theorem e_if {bb : Bool} (hc : DT X ρ c bb) (ha : bb = true → DE X ρ a da) (hb : bb = false → DE X ρ b db) : DE X ρ (.IfExp c a b pos) (if bb = true then da else db) :=
  e_ifP hc (fun h => by subst h; exact DE.p (ha rfl) (by simp)) (fun h => by subst h; exact DE.p (hb rfl) (by simp))
/-- a list's, a tuple's truth -/
theorem t_L (h : DE X ρ e (.list ds)) (he : ∀ whole, isTrue e X.env whole = (do let v ← whole; standAt e.pos; holding [v] (truthy v)) := by intro _; rfl) : DT X ρ e (!ds.isEmpty) :=
  PT.weak (pt_truth h he) fun σ H Q ⟨F0, H0, F, g, r, q⟩ => ⟨F0, H0, F, g, r, fun v d F1 H1 p1 g1 s1 r1 i1 => by
    subst p1
    obtain ⟨p, vs, rfl, h1, h2, _⟩ := i1.lst_inv
    refine ⟨!ds.isEmpty, .inl ⟨vs, SqL.of (g1.fh _ _ h1), ?_⟩, q _ F1 H1 rfl g1 s1 r1⟩
    have := dqA_len h2
    cases vs <;> cases ds <;> simp_all⟩

/-! ### built-ins -/
variable {p : Pos}
theorem sc_lenT {K : PySem.W.Frag} : StepC (fun xs H Q => ∃ p ys, xs = [V.ref p] ∧ (SqL K H p ys ∨ SqT K H p ys) ∧ Q (.int ys.length) H) (fun x => x = .tuple ds) (fun x => x = .int ds.length) := by
  intro F H x da Q s i1 pa q
  subst pa
  obtain ⟨p, vs, rfl, h1, h2, _⟩ := i1.tup_inv
  refine ⟨p, vs, rfl, .inr (h1.mono s).sq, ?_⟩
  rw [dqA_len h2]
  exact q _ _ F H rfl (Gw.refl s) is_int
theorem sc_lenL {K : PySem.W.Frag} : StepC (fun xs H Q => ∃ p ys, xs = [V.ref p] ∧ (SqL K H p ys ∨ SqT K H p ys) ∧ Q (.int ys.length) H) (fun x => x = .list ds) (fun x => x = .int ds.length) := by
  intro F H x da Q s i1 pa q
  subst pa
  obtain ⟨p, vs, rfl, h1, h2, _⟩ := i1.lst_inv
  refine ⟨p, vs, rfl, .inl (SqL.of (s _ _ h1)), ?_⟩
  rw [dqA_len h2]
  exact q _ _ F H rfl (Gw.refl s) is_int
theorem bn_len : ("len" : Str) ∈ BN := by decide +kernel
theorem bn_list : ("list" : Str) ∈ BN := by decide +kernel
theorem bn_tuple : ("tuple" : Str) ∈ BN := by decide +kernel
theorem bn_abs : ("abs" : Str) ∈ BN := by decide +kernel
theorem bn_int : ("int" : Str) ∈ BN := by decide +kernel
theorem bn_max : ("max" : Str) ∈ BN := by decide +kernel
theorem bn_sorted : ("sorted" : Str) ∈ BN := by decide +kernel
theorem bn_set : ("set" : Str) ∈ BN := by decide +kernel
theorem bn_isi : ("isinstance" : Str) ∈ BN := by decide +kernel
theorem bn_range : ("range" : Str) ∈ BN := by decide +kernel
theorem bn_enum : ("enumerate" : Str) ∈ BN := by decide +kernel
theorem bn_bool : ("bool" : Str) ∈ BN := by decide +kernel
theorem bn_str : ("str" : Str) ∈ BN := by decide +kernel
theorem e_lenT [fx : Fx X sc N k] (ha : DE X ρ a (.tuple ds)) (hg : glB sc "len" = true := by decide +kernel) (he : starEach [a] X.env = [(false, eval a X.env)] := by rfl) : DE X ρ (.Call (.Name "len" p) [a] [] pos) (.int ds.length) :=
  DP.callB call_len_seq ha sc_lenT bn_len boot_len (by decide) (by decide) hg he
theorem e_lenL [fx : Fx X sc N k] (ha : DE X ρ a (.list ds)) (hg : glB sc "len" = true := by decide +kernel) (he : starEach [a] X.env = [(false, eval a X.env)] := by rfl) : DE X ρ (.Call (.Name "len" p) [a] [] pos) (.int ds.length) :=
  DP.callB call_len_seq ha sc_lenL bn_len boot_len (by decide) (by decide) hg he
/-- a new list, a new tuple as a result -/
theorem new_lst {F H : Hp} {vs : List V} {Q : VK} (s : Same F H) (h : DqA F vs ds) (hz : ds.length ≤ sizeLine) (hd : ∀ d ∈ ds, Sz d) (q : ∀ v d' F' H', d' = PyData.list ds → Gw F H F' H' → Is F' v d' → Q v H') : ∀ l, H l = none → Q (.ref l) (upd H l (.lst vs)) := fun l hl =>
  let gw := Gw.dat (o := .lst vs) s hl
  q _ _ _ _ rfl gw ⟨.lst upd_same (dqA_mono gw.ff _ _ h), sz_list.mpr ⟨hz, hd⟩⟩
theorem new_tup {F H : Hp} {vs : List V} {Q : VK} (s : Same F H) (h : DqA F vs ds) (hz : ds.length ≤ sizeLine) (hd : ∀ d ∈ ds, Sz d) (q : ∀ v d' F' H', d' = PyData.tuple ds → Gw F H F' H' → Is F' v d' → Q v H') : ∀ l (o : Obj), H l = none → o.dict = none → Q (.ref l) (upd H l (.frz o (.tup vs))) := fun l o hl ho =>
  let gw := Gw.dat (o := .frz o (.tup vs)) s hl
  q _ _ _ _ rfl gw ⟨.tup (tp_new ho) (dqA_mono gw.ff _ _ h), sz_tuple.mpr ⟨hz, hd⟩⟩
/-- tuple(list), the new object known -/
theorem call_tupleF : CallR X (.type "tuple") (fun xs H Q => ∃ p ys, xs = [.ref p] ∧ SqL X.K H p ys ∧ ∀ l (o : Obj), H l = none → o.dict = none → Q (.ref l) (upd H l (.frz o (.tup ys)))) := by
  intro pins s σ H xs us Q I r h
  obtain ⟨p, ys, rfl, hq, q⟩ := h
  obtain ⟨u, rfl, rx⟩ := vals1 r
  cases rx
  obtain ⟨its, r', pl, hz⟩ := I.list hq
  have hlen := r'.length
  have l63 := line63
  refine call_tuple_list pl.isList (fun h' kp => ?_) (by simp only [List.size_toArray] <;> omega)
  have I1 : Inv X pins σ H { s with heap := h' } := I.kept (t' := s.toks) kp
  have hg : (h'.push ({ cls := .type "tuple", data := .seq its.toArray } : Obj)).get? h'.objs.size = some { cls := .type "tuple", data := .seq its.toArray } := Heap.get?_push_size _ rfl
  have I2 : Inv X pins σ (upd H h'.objs.size (.frz { cls := .type "tuple", data := .seq its.toArray } (.tup ys))) { s with heap := h'.push { cls := .type "tuple", data := .seq its.toArray } } :=
    I1.laid (t' := s.toks) (fun b o e => Heap.get?_push_of_some _ e) (Nat.le_refl _) ⟨hg, hz, its, r', ⟨_, hg, rfl, _, rfl⟩⟩
  exact ⟨.ref h'.objs.size, _, I2, rfl, q _ _ (I1.hok.fresh (Nat.le_refl _)) rfl⟩
theorem e_listT [fx : Fx X sc N k] (ha : DE X ρ a (.tuple ds)) (hg : glB sc "list" = true := by decide +kernel) (he : starEach [a] X.env = [(false, eval a X.env)] := by rfl) : DE X ρ (.Call (.Name "list" p) [a] [] pos) (.list ds) :=
  DP.callTy call_list_of ha (by
    intro F H x da Q s i1 pa q
    subst pa
    obtain ⟨p, vs, rfl, h1, h2, h3, h4⟩ := i1.tup_inv
    exact ⟨p, vs, rfl, .inr (h1.mono s).sq, new_lst s h2 h3 h4 q⟩) bn_list (by decide +kernel) (by decide) (by decide) hg he
theorem e_tupL [fx : Fx X sc N k] (ha : DE X ρ a (.list ds)) (hg : glB sc "tuple" = true := by decide +kernel) (he : starEach [a] X.env = [(false, eval a X.env)] := by rfl) : DE X ρ (.Call (.Name "tuple" p) [a] [] pos) (.tuple ds) :=
  DP.callTy call_tupleF ha (by
    intro F H x da Q s i1 pa q
    subst pa
    obtain ⟨p, vs, rfl, h1, h2, h3, h4⟩ := i1.lst_inv
    exact ⟨p, vs, rfl, SqL.of (s _ _ h1), new_tup s h2 h3 h4 q⟩) bn_tuple (by decide +kernel) (by decide) (by decide) hg he
theorem e_abs [fx : Fx X sc N k] (ha : DE X ρ a (.int i)) (hg : glB sc "abs" = true := by decide +kernel) (he : starEach [a] X.env = [(false, eval a X.env)] := by rfl) : DE X ρ (.Call (.Name "abs" p) [a] [] pos) (.int (if i < 0 then -i else i)) :=
  DP.callB call_abs ha (by
    intro F H x da Q s i1 pa q
    subst pa
    rw [i1.int_inv]
    exact ⟨i, rfl, q _ _ F H rfl (Gw.refl s) is_int⟩) bn_abs (by decide +kernel) (by decide) (by decide) hg he
theorem e_intI [fx : Fx X sc N k] (ha : DE X ρ a (.int i)) (hg : glB sc "int" = true := by decide +kernel) (he : starEach [a] X.env = [(false, eval a X.env)] := by rfl) : DE X ρ (.Call (.Name "int" p) [a] [] pos) (.int i) :=
  DP.callTy call_int1 ha (by
    intro F H x da Q s i1 pa q
    subst pa
    rw [i1.int_inv]
    exact .inl ⟨i, rfl, q _ _ F H rfl (Gw.refl s) is_int⟩) bn_int (by decide +kernel) (by decide) (by decide) hg he
theorem e_intB [fx : Fx X sc N k] {bb : Bool} (ha : DE X ρ a (.bool bb)) (hg : glB sc "int" = true := by decide +kernel) (he : starEach [a] X.env = [(false, eval a X.env)] := by rfl) : DE X ρ (.Call (.Name "int" p) [a] [] pos) (.int (if bb then 1 else 0)) :=
  DP.callTy call_int1 ha (by
    intro F H x da Q s i1 pa q
    subst pa
    rw [i1.bl_inv]
    exact .inr ⟨bb, rfl, q _ _ F H rfl (Gw.refl s) is_int⟩) bn_int (by decide +kernel) (by decide) (by decide) hg he
theorem perm_le_eq : ∀ {as bs : List Int}, as.Perm bs → as.Pairwise (· ≤ ·) → bs.Pairwise (· ≤ ·) → as = bs := fun {as bs} p h1 h2 => p.eq_of_pairwise (fun a b _ _ => Int.le_antisymm) h1 h2
theorem e_max [fx : Fx X sc N k] {m : Int} (ha : DE X ρ a (.list (ns.map .int))) (hm : m ∈ ns) (hb : ∀ y ∈ ns, y ≤ m) (hg : glB sc "max" = true := by decide +kernel) (he : starEach [a] X.env = [(false, eval a X.env)] := by rfl) : DE X ρ (.Call (.Name "max" p) [a] [] pos) (.int m) :=
  DP.callB (cr_max fx.calm) ha (by
    intro F H x da Q s i1 pa q
    subst pa
    obtain ⟨p, vs, rfl, h1, h2, h3, h4⟩ := i1.lst_inv
    have e := dqA_ints_inv h2
    subst e
    refine ⟨p, ns, rfl, SqL.of (s _ _ h1), List.length_pos_of_mem hm, fun m' h5 h6 => ?_⟩
    have e : m' = m := Int.le_antisymm (hb _ h5) (h6 _ hm)
    subst e
    exact q _ _ F H rfl (Gw.refl s) is_int) bn_max (by decide +kernel) (by decide) (by decide) hg he
def sortI (ns : List Int) : List Int := ns.mergeSort (fun a b => decide (a ≤ b))
theorem sortI_perm (ns : List Int) : (sortI ns).Perm ns := List.mergeSort_perm _ _
theorem sortI_pw (ns : List Int) : (sortI ns).Pairwise (· ≤ ·) :=
  (List.pairwise_mergeSort (le := fun a b => decide (a ≤ b)) (fun a b c h1 h2 => by simp at *; omega) (fun a b => by simp; omega) ns).imp fun h => by simpa using h
theorem sortI_eq {ns ms : List Int} (h : ms.Perm ns) (h2 : ms.Pairwise (· ≤ ·)) : ms = sortI ns := perm_le_eq (h.trans (sortI_perm ns).symm) h2 (sortI_pw ns)
theorem e_sortI [fx : Fx X sc N k] (ha : DE X ρ a (.list (ns.map .int))) (hg : glB sc "sorted" = true := by decide +kernel) (he : starEach [a] X.env = [(false, eval a X.env)] := by rfl) : DE X ρ (.Call (.Name "sorted" p) [a] [] pos) (.list ((sortI ns).map .int)) :=
  DP.callB cr_sortedI ha (by
    intro F H x da Q s i1 pa q
    subst pa
    obtain ⟨p, vs, rfl, h1, h2, h3, h4⟩ := i1.lst_inv
    have e := dqA_ints_inv h2
    subst e
    refine ⟨p, ns, rfl, SqL.of (s _ _ h1), fun ms l hp hw hl => ?_⟩
    have e := sortI_eq hp hw
    subst e
    exact new_lst s (dqA_ints _) (by rw [List.length_map, hp.length_eq]; simpa using h3) (fun d hd => by obtain ⟨i, _, rfl⟩ := List.mem_map.mp hd; exact sz_int i) q l hl) bn_sorted (by decide +kernel) (by decide) (by decide) hg he
def rCatD : R2 := fun x y H Q => ∃ l b xs zs, x = .ref l ∧ y = .ref b ∧ H l = some (.lst xs) ∧ H b = some (.lst zs) ∧ xs.length + zs.length ≤ sizeLine ∧ ∀ p, H p = none → Q (.ref p) (upd H p (.lst (xs ++ zs)))
theorem e_cat (ha : DE X ρ a (.list ds)) (hb : DE X ρ b (.list es)) (hz : ds.length + es.length ≤ sizeLine) : DE X ρ (.BinOp a .Add b pos) (.list (ds ++ es)) :=
  DP.op op_cat ha hb (by
    intro F H x y da db Q s i1 i2 pa pb q
    subst pa; subst pb
    obtain ⟨p, vs, rfl, h1, h2, h3, h4⟩ := i1.lst_inv
    obtain ⟨r, us, rfl, k1, k2, k3, k4⟩ := i2.lst_inv
    refine ⟨p, r, vs, us, rfl, rfl, s _ _ h1, s _ _ k1, by rw [dqA_len h2, dqA_len k2]; exact hz, new_lst s (dqA_app h2 k2) (by rw [List.length_append]; exact hz) (fun d hd => ?_) q⟩
    rcases List.mem_append.mp hd with hd | hd
    · exact h4 d hd
    · exact k4 d hd)
/-- t == u, tuples of ints -/
theorem eqvAll_ints : ∀ ns ms : List Int, PyData.eqvAll (ns.map .int) (ms.map .int) = decide (ns = ms)
  | [], [] => by simp [PyData.eqvAll]
  | [], _ :: _ => by simp [PyData.eqvAll]
  | _ :: _, [] => by simp [PyData.eqvAll]
  | n :: ns, m :: ms => by
    rw [List.map_cons, List.map_cons, PyData.eqvAll, eqvAll_ints ns ms, PyData.eqv]
    by_cases h1 : n = m
    · subst h1; simp
    · have h2 : (n == m) = false := beq_eq_false_iff_ne.mpr h1
      rw [h2]; simp [h1]
theorem lay_ints : ∀ ns : List Int, PyData.canLayAll0 (ns.map .int) = true
  | [] => by simp [PyData.canLayAll0]
  | n :: ns => by rw [List.map_cons, PyData.canLayAll0, lay_ints ns]; simp [PyData.canLay0]
theorem dep_ints : ∀ ns : List Int, PyData.depthAll (ns.map .int) = 0
  | [] => by simp [PyData.depthAll]
  | n :: ns => by rw [List.map_cons, PyData.depthAll, dep_ints ns]; simp [PyData.depth]
theorem shp_c (ns : List Int) : SeqAt.shaped (.tuple (ns.map .int)) = true := by
  show (PyData.canLay0 (.tuple (ns.map .int)) && decide (PyData.depth (.tuple (ns.map .int)) ≤ 64)) = true
  rw [Bool.and_eq_true]
  exact ⟨by simp only [PyData.canLay0]; exact lay_ints ns, decide_eq_true (by simp only [PyData.depth, dep_ints]; omega)⟩
theorem e_eqC [fx : Fx X sc N k] {ms : List Int} (ha : DE X ρ a (.tuple (ns.map .int))) (hb : DE X ρ b (.tuple (ms.map .int))) : DE X ρ (.Compare a [.Eq] [b] pos) (.bool (decide (ns = ms))) :=
  DP.cmp (op_eqD fx.room.units) ha hb (by
    intro F H x y da db Q s i1 i2 pa pb q
    subst pa; subst pb
    refine ⟨_, _, dq_dp _ _ (i1.mono s).1, dq_dp _ _ (i2.mono s).1, shp_c ns, shp_c ms, ?_⟩
    rw [PyData.eqv, eqvAll_ints]
    exact q _ _ F H rfl (Gw.refl s) is_bl) (nomark _)

/-! ### calls of defs -/
structure Has (P : Program) (w : World) (K : PySem.W.Frag) (mg : Str → Option Value) (base : Heap) (x : Str) (k : Nat) (sp : Sp) : Prop where
  ex : ∃ (f : Addr) (fd : FuncData) (ps : List Str), mg x = some (.ref f) ∧ PySem.W.keepIn K (.ref f) = true ∧ Binds K fd ps [] ∧ FnOk P w K mg base CX0 k f fd ps sp
abbrev Hs (X : Cx) (x : Str) (k : Nat) (sp : Sp) : Prop := Has X.prog X.w X.K X.mg X.base x k sp
def Apart (as : List Sl) : Prop := ∀ (i j : Nat) (s t : Sl) (a : Addr), as[i]? = some s → as[j]? = some t → s.adr = some a → t.adr = some a → i = j
/-- a def that keeps what its mutable arguments are -/
def spK {T : Type} (ar : T → List Sl) (pre : T → Prop) (R : T → PyData → Prop) : Sp := fun vs H Q _ => ∃ t F0 H0 F, pre t ∧ Gw F0 H0 F H ∧ ArOk H0 F H vs (ar t) ∧ Apart (ar t) ∧
  ∀ v d F' H', R t d → Gw F0 H0 F' H' → Same F F' → (∀ s ∈ ar t, MutOk H0 F' H' s) → Is F' v d → Q v H'
/-- a def of data alone -/
abbrev spP {T : Type} (ar : T → List PyData) (pre : T → Prop) (res : T → PyData) : Sp := spK (fun t => (ar t).map .dat) pre (fun t d => d = res t)
/-- the heap without the mutable arguments -/
noncomputable def del (H : Hp) (as : List Sl) : Hp := fun b => open Classical in if (∃ s ∈ as, s.adr = some b) then none else H b
theorem del_in {H : Hp} {as : List Sl} {s : Sl} {b : Addr} (h : s ∈ as) (e : s.adr = some b) : del H as b = none := by
  unfold del
  rw [if_pos ⟨s, h, e⟩]
theorem del_out {H : Hp} {as : List Sl} {b : Addr} (h : ¬ ∃ s ∈ as, s.adr = some b) : del H as b = H b := by
  unfold del
  rw [if_neg h]
theorem del_sub {H : Hp} {as : List Sl} : Same (del H as) H := fun b o e => by
  by_cases h : ∃ s ∈ as, s.adr = some b
  · obtain ⟨s, h1, h2⟩ := h
    rw [del_in h1 h2] at e
    cases e
  · rw [del_out h] at e; exact e
theorem Gw.del {F H : Hp} {as : List Sl} (s : Same F H) (hf : ∀ s ∈ as, ∀ a, s.adr = some a → F a = none) : Gw F (del H as) F H := ⟨del_sub, Same.refl _, s, fun _ _ e => .inl e⟩
theorem slOk_del {H0 F H : Hp} {as : List Sl} {x : Option V} {s : Sl} (hs : s ∈ as) (h : SlOk H0 F H x s) : SlOk (Rb.del H as) F H x s := by
  cases s with
  | any => trivial
  | dat d => exact h
  | own a P =>
    obtain ⟨h1, h2, h3⟩ := h
    exact ⟨h1, del_in hs rfl, h3⟩
  | dct a kvs =>
    obtain ⟨h1, h2, h3⟩ := h
    exact ⟨h1, del_in hs rfl, h3⟩
  | obj a C fs => exact h
theorem arOk_del {H0 F H : Hp} {as0 : List Sl} : ∀ {vs : List V} {as : List Sl}, (∀ s ∈ as, s ∈ as0) → ArOk H0 F H vs as → ArOk (Rb.del H as0) F H vs as
  | _, _, _, .nil => .nil
  | _, _, h, .cons q t => .cons (slOk_del (h _ List.mem_cons_self) q) (arOk_del (fun s hs => h s (List.mem_cons_of_mem _ hs)) t)
theorem arOk_mut {H0 F H : Hp} : ∀ {vs : List V} {as : List Sl}, ArOk H0 F H vs as → ∀ s ∈ as, MutOk H0 F H s
  | _, _, .nil, s, h => by cases h
  | _, _, .cons q t, s, h => by
    rcases List.mem_cons.mp h with rfl | h
    · exact q.mut
    · exact arOk_mut t s h
theorem mut_adr {H0 F H : Hp} {s : Sl} {a : Addr} (h : MutOk H0 F H s) (e : s.adr = some a) : H0 a = none ∧ F a = none ∧ ∃ o, H a = some o ∧ ∀ C dx fs, o ≠ .ins C dx fs := by
  cases s with
  | own b P =>
    cases e
    obtain ⟨h1, h2, vs, ds, h3, _⟩ := h
    exact ⟨h1, h2, _, h3, fun _ _ _ q => by cases q⟩
  | dct b kvs =>
    cases e
    obtain ⟨h1, h2, h3⟩ := h
    exact ⟨h1, h2, _, h3, fun _ _ _ q => by cases q⟩
  | any => cases e
  | dat d => cases e
  | obj b C fs => cases e
/-- behind a call: what the caller knows -/
theorem after_call {F0 H0 F H F' H' : Hp} {as as' : List Sl} {σ : St} {vs : List V} (g : Gw F0 H0 F H) (r : Rep H0 ρ σ F H) (ha : ArOk H0 F H vs as) (g' : Gw F (Rb.del H as) F' H') (hm : ∀ s ∈ as, MutOk (Rb.del H as) F' H' s)
    (hin : ∀ s ∈ as, s.adr ≠ none → s ∈ ρ) : Gw F0 H0 F' H' ∧ Rep H0 ρ σ F' H' := by
  have nm : ∀ b, (∃ s ∈ as, s.adr = some b) → H0 b = none ∧ F b = none := fun b ⟨s, h1, h2⟩ => let q := mut_adr (arOk_mut ha s h1) h2; ⟨q.1, q.2.1⟩
  refine ⟨⟨fun b o e => ?_, g.ff.trans g'.ff, g'.fh, fun b o e => ?_⟩, ⟨r.len, fun i s e => ?_, r.ap⟩⟩
  · refine g'.hh b o ?_
    rw [del_out fun h => by rw [(nm b h).1] at e; cases e]
    exact g.hh b o e
  · rcases g'.nw b o e with q | q
    · exact g.nw b o q
    · by_cases h : ∃ s ∈ as, s.adr = some b
      · exact .inr (nm b h).1
      · rw [del_out h] at q
        exact .inr (g.hh.free q)
  · obtain ⟨x, q1, q2⟩ := r.ok i s e
    refine ⟨x, q1, ?_⟩
    have keep : ∀ b o, H b = some o → (¬ ∃ s ∈ as, s.adr = some b) → H' b = some o := fun b o q n => g'.hh b o (by rw [del_out n]; exact q)
    have stay : ∀ b o, H b = some o → F b = none → (¬ ∃ s ∈ as, s.adr = some b) → F' b = none := fun b o q f n => g'.stays f (by rw [del_out n]; exact q)
    -- a mutable slot: handed on, or not touched
    have mine : ∀ b, s.adr = some b → (∃ s ∈ as, s.adr = some b) → s ∈ as := fun b hb ⟨t, h1, h2⟩ => by
      obtain ⟨j, hj, ej⟩ := List.getElem_of_mem (hin t h1 (by rw [h2]; simp))
      have e2 : ρ[j]? = some t := by rw [List.getElem?_eq_getElem hj, ej]
      have e3 := r.ap i j s t b e e2 hb h2
      subst e3
      rw [e] at e2
      cases e2
      exact h1
    cases s with
    | any => trivial
    | dat d =>
      obtain ⟨v, e1, e2⟩ := q2
      exact ⟨v, e1, e2.mono g'.ff⟩
    | own b P =>
      obtain ⟨e1, z1, z2, vs', ds', z3, z4, z5⟩ := q2
      by_cases h : ∃ s ∈ as, s.adr = some b
      · obtain ⟨_, y2, y3⟩ := hm _ (mine b rfl h)
        exact ⟨e1, z1, y2, y3⟩
      · exact ⟨e1, z1, stay b _ z3 z2 h, vs', ds', keep b _ z3 h, dqA_mono g'.ff _ _ z4, z5⟩
    | dct b kvs =>
      obtain ⟨e1, z1, z2, z3⟩ := q2
      by_cases h : ∃ s ∈ as, s.adr = some b
      · obtain ⟨_, y2, y3⟩ := hm _ (mine b rfl h)
        exact ⟨e1, z1, y2, y3⟩
      · exact ⟨e1, z1, stay b _ z3 z2 h, keep b _ z3 h⟩
    | obj b C fs =>
      obtain ⟨e1, dx, vs', z1, z2⟩ := q2
      refine ⟨e1, dx, vs', keep b _ z1 fun ⟨t, h1, h2⟩ => ?_, fun f d e => (z2 f d e).mono g'.ff⟩
      obtain ⟨_, _, o, h3, h4⟩ := mut_adr (arOk_mut ha t h1) h2
      rw [z1] at h3
      cases h3
      exact h4 _ _ _ rfl
/-- the call of a def that keeps its mutable arguments -/
theorem e_cbK [fx : Fx X sc N k] {T : Type} {ar : T → List Sl} {pre : T → Prop} {R : T → PyData → Prop} {x : Str} {j : Nat} {Pr : PyData → Prop} (h : Hs X x j (spK ar pre R)) (t : T) (ha : DA X ρ (a :: rest) (fun as => as = ar t)) (hp : pre t) (hap : Apart (ar t)) (hin : ∀ s ∈ ar t, s.adr ≠ none → s ∈ ρ) (hj : j ≤ k := by decide) (hR : ∀ d, R t d → Pr d := by exact fun _ h => h)
    (hg : glB sc x = true := by decide +kernel) (he : starEach (a :: rest) X.env = (false, eval a X.env) :: starEach rest X.env := by rfl) (hpl : (backTo pos (starEach rest X.env)).any (·.1) = false := by rfl) : DP X ρ (.Call (.Name x p) (a :: rest) [] pos) Pr := by
  obtain ⟨f, fd, ps, h1, h2, h3, h4⟩ := h.ex
  obtain ⟨g1, g2⟩ := gl_of fx.hsc hg
  refine PE.weak (pe_call h4 (fx.room.mono hj) g1 h1 h2 h3 (.nil : Vals [] []) pass0 ha g2 he hpl) fun σ H Q ⟨F0, H0, F, g, r, q⟩ => ⟨F0, H0, F, g, r, fun vs as F1 H1 p1 g1 s1 r1 i1 => ?_⟩
  subst p1
  rw [List.append_nil]
  refine ⟨t, F1, Rb.del H1 (ar t), F1, hp, Gw.del g1.fh (fun s hs a e => (mut_adr (arOk_mut i1 s hs) e).2.1), arOk_del (fun s hs => hs) i1, hap, fun v d F' H' hr gg ss hm is => ?_⟩
  obtain ⟨gN, rN⟩ := after_call (as' := []) g1 r1 i1 gg hm hin
  exact q v d F' H' (hR d hr) gN (s1.trans gg.ff) rN is
theorem apart_dats {ds : List PyData} : Apart (ds.map .dat) := fun i j s t a e1 e2 a1 a2 => by
  rw [List.getElem?_map] at e1
  cases q : ds[i]? with
  | none => rw [q] at e1; cases e1
  | some d => rw [q] at e1; cases e1; cases a1
theorem e_cb [fx : Fx X sc N k] {T : Type} {ar : T → List PyData} {pre : T → Prop} {res : T → PyData} {x : Str} {j : Nat} {d : PyData} (h : Hs X x j (spP ar pre res)) (t : T) (ha : DA X ρ (a :: rest) (fun as => as = (ar t).map .dat)) (hp : pre t) (hj : j ≤ k := by decide) (hd : res t = d := by rfl)
    (hg : glB sc x = true := by decide +kernel) (he : starEach (a :: rest) X.env = (false, eval a X.env) :: starEach rest X.env := by rfl) (hpl : (backTo pos (starEach rest X.env)).any (·.1) = false := by rfl) : DE X ρ (.Call (.Name x p) (a :: rest) [] pos) d :=
  e_cbK h t ha hp apart_dats (fun s hs e => by obtain ⟨d, _, rfl⟩ := List.mem_map.mp hs; exact absurd rfl e) hj (fun y hy => hy.trans hd) hg he hpl
theorem e_callK [fx : Fx X sc N k] {T : Type} {ar : T → List Sl} {pre : T → Prop} {R : T → PyData → Prop} {x : Str} {j : Nat} (h : Hs X x j (spK ar pre R)) (t : T) (ha : DA X ρ (a :: rest) (fun as => as = ar t)) (hp : pre t) (hap : Apart (ar t)) (hin : ∀ s ∈ ar t, s.adr ≠ none → s ∈ ρ) (hj : j ≤ k := by decide)
    (hg : glB sc x = true := by decide +kernel) (he : starEach (a :: rest) X.env = (false, eval a X.env) :: starEach rest X.env := by rfl) (hpl : (backTo pos (starEach rest X.env)).any (·.1) = false := by rfl) : DP X ρ (.Call (.Name x p) (a :: rest) [] pos) (R t) :=
  e_cbK h t ha hp hap hin hj (fun _ h => h) hg he hpl
theorem e_call [fx : Fx X sc N k] {T : Type} {ar : T → List PyData} {pre : T → Prop} {res : T → PyData} {x : Str} {j : Nat} (h : Hs X x j (spP ar pre res)) (t : T) (ha : DA X ρ (a :: rest) (fun as => as = (ar t).map .dat)) (hp : pre t) (hj : j ≤ k := by decide)
    (hg : glB sc x = true := by decide +kernel) (he : starEach (a :: rest) X.env = (false, eval a X.env) :: starEach rest X.env := by rfl) (hpl : (backTo pos (starEach rest X.env)).any (·.1) = false := by rfl) : DE X ρ (.Call (.Name x p) (a :: rest) [] pos) (res t) :=
  e_cb h t ha hp hj rfl hg he hpl
end
end Rb
/-! Rb, part d: what is walked, comprehensions, statements, defs -/
namespace Rb
open PySem PySem.Spec L2

/-! ### what is walked -/
/-- J walks the data ds, whatever is added to F and H -/
def Walks (J : It) (F : Hp) (ds : List PyData) : Prop := ∀ F' H', Same F F' → Same F' H' → ∀ i, i ≤ ds.length →
  (i < ds.length → J.go i H' ∧ ∀ x H2, J.yld i H' x H2 → ∃ F2 d, Gw F' H' F2 H2 ∧ ds[i]? = some d ∧ Is F2 x d) ∧ (i = ds.length → J.stop i H')
theorem Walks.mono {J : It} {F F' : Hp} {ds : List PyData} (e : Same F F') (h : Walks J F ds) : Walks J F' ds := fun F2 H2 s1 s2 => h F2 H2 (e.trans s1) s2
def tI (ρ : List Sl) (P : List PyData → Prop) : TI := fun σ H R => ∃ F0 H0 F, Gw F0 H0 F H ∧ Rep H0 ρ σ F H ∧
  ∀ J ds F' H', P ds → Gw F0 H0 F' H' → Same F F' → Rep H0 ρ σ F' H' → Walks J F' ds → ds.length ≤ sizeLine → R J H'
abbrev DI (X : Cx) (ρ : List Sl) (tg e : Expr) (P : List PyData → Prop) : Prop := PI X tg e (tI ρ P)
/-- what a comprehension may give: each item left out or kept as the test says -/
inductive Comp (Pt : Nat → PyData → Bool → Prop) (Pe : Nat → PyData → PyData → Prop) : List PyData → List PyData → Prop
  | nil : Comp Pt Pe [] []
  | out {x : PyData} {xs ys : List PyData} : Comp Pt Pe xs ys → Pt xs.length x false → Comp Pt Pe (xs ++ [x]) ys
  | keep {x y : PyData} {xs ys : List PyData} : Comp Pt Pe xs ys → Pt xs.length x true → Pe xs.length x y → Comp Pt Pe (xs ++ [x]) (ys ++ [y])
section
variable {X : Cx} {ρ : List Sl} {sc : Scope} {N : List Str} {k : Nat} {a b c e tg elt : Expr} {rest : List Expr} {pos p : Pos} {P Pa Pb : PyData → Prop} {d da db : PyData} {i j : Int} {ds es : List PyData} {ns : List Int}
theorem PI.weak {t t' : TI} (h : PI X tg e t) (w : ∀ σ H Q, t' σ H Q → t σ H Q) : PI X tg e t' := ⟨fun pins s σ H R I q => h.run pins s σ H R I (w σ H R q)⟩
theorem walks_list {K : PySem.W.Frag} {F : Hp} {A : Addr} {vs : List V} (h1 : F A = some (.lst vs)) (h2 : DqA F vs ds) (h4 : ∀ d ∈ ds, Sz d) : Walks (Itl K A) F ds := by
  intro F' H' s1 s2 i hi
  have e := s2 _ _ (s1 _ _ h1)
  have hl := dqA_len h2
  refine ⟨fun hlt => ?_, fun he => ⟨vs, SqL.of e, by omega⟩⟩
  obtain ⟨d, hd⟩ : ∃ d, ds[i]? = some d := ⟨ds[i], List.getElem?_eq_getElem hlt⟩
  obtain ⟨v, e1, e2⟩ := dqA_get h2 hd
  refine ⟨⟨vs, v, SqL.of e, e1⟩, fun x H2 y => ?_⟩
  obtain ⟨rfl, y⟩ := y
  have q := y vs (SqL.of e)
  rw [e1] at q
  cases q
  exact ⟨F', d, Gw.refl s2, hd, dq_mono s1 _ _ e2, h4 _ (List.mem_of_getElem? hd)⟩
theorem walks_tup {K : PySem.W.Frag} {F : Hp} {A : Addr} {vs : List V} (h1 : Tp F A vs) (h2 : DqA F vs ds) (h4 : ∀ d ∈ ds, Sz d) : Walks (Itt K A) F ds := by
  intro F' H' s1 s2 i hi
  have e : SqT K H' A vs := ((h1.mono s1).mono s2).sq
  have hl := dqA_len h2
  refine ⟨fun hlt => ?_, fun he => ⟨vs, e, by omega⟩⟩
  obtain ⟨d, hd⟩ : ∃ d, ds[i]? = some d := ⟨ds[i], List.getElem?_eq_getElem hlt⟩
  obtain ⟨v, e1, e2⟩ := dqA_get h2 hd
  refine ⟨⟨vs, v, e, e1⟩, fun x H2 y => ?_⟩
  obtain ⟨rfl, y⟩ := y
  have q := y vs (e)
  rw [e1] at q
  cases q
  exact ⟨F', d, Gw.refl s2, hd, dq_mono s1 _ _ e2, h4 _ (List.mem_of_getElem? hd)⟩
/-- lo, lo + 1, .. -/
def rngD (lo : Int) (n : Nat) : List PyData := (List.range n).map fun i => .int (lo + (i : Nat))
theorem rngD_len (lo : Int) (n : Nat) : (rngD lo n).length = n := by simp [rngD]
theorem rngD_get {lo : Int} {n i : Nat} (h : i < n) : (rngD lo n)[i]? = some (.int (lo + (i : Nat))) := by
  unfold rngD
  rw [List.getElem?_map, List.getElem?_range h]
  rfl
theorem walks_rng {F : Hp} (lo : Int) (n : Nat) : Walks (Itr lo n) F (rngD lo n) := by
  intro F' H' s1 s2 i hi
  rw [rngD_len] at *
  refine ⟨fun hlt => ⟨hlt, fun x H2 y => ?_⟩, fun he => by rw [he]; exact Nat.le_refl n⟩
  obtain ⟨rfl, rfl⟩ := y
  exact ⟨F', _, Gw.refl s2, rngD_get hlt, is_int⟩
theorem i_L (h : DE X ρ e (.list ds)) : DI X ρ tg e (fun x => x = ds) :=
  PI.weak (pi_list h) fun σ H R ⟨F0, H0, F, g, r, q⟩ => ⟨F0, H0, F, g, r, fun v d F1 H1 p1 g1 s1 r1 i1 => by
    subst p1
    obtain ⟨A, vs, rfl, h1, h2, h3, h4⟩ := i1.lst_inv
    exact ⟨A, rfl, ⟨vs, SqL.of (g1.fh _ _ h1)⟩, q _ ds F1 H1 rfl g1 s1 r1 (walks_list h1 h2 h4) h3⟩⟩
theorem i_LP {Pl : List PyData → Prop} (h : DP X ρ e (fun d => ∃ ds, d = .list ds ∧ Pl ds)) : DI X ρ tg e Pl :=
  PI.weak (pi_list h) fun σ H R ⟨F0, H0, F, g, r, q⟩ => ⟨F0, H0, F, g, r, fun v d F1 H1 p1 g1 s1 r1 i1 => by
    obtain ⟨ds, rfl, pl⟩ := p1
    obtain ⟨A, vs, rfl, h1, h2, h3, h4⟩ := i1.lst_inv
    exact ⟨A, rfl, ⟨vs, SqL.of (g1.fh _ _ h1)⟩, q _ ds F1 H1 pl g1 s1 r1 (walks_list h1 h2 h4) h3⟩⟩
theorem i_T (h : DE X ρ e (.tuple ds)) : DI X ρ tg e (fun x => x = ds) :=
  PI.weak (pi_tup h) fun σ H R ⟨F0, H0, F, g, r, q⟩ => ⟨F0, H0, F, g, r, fun v d F1 H1 p1 g1 s1 r1 i1 => by
    subst p1
    obtain ⟨A, vs, rfl, h1, h2, h3, h4⟩ := i1.tup_inv
    exact ⟨A, rfl, ⟨vs, (h1.mono g1.fh).sq⟩, q _ ds F1 H1 rfl g1 s1 r1 (walks_tup h1 h2 h4) h3⟩⟩
theorem ar1 {H0 F H : Hp} {vs : List V} (h : ArOk H0 F H vs [.dat (.int i)]) : vs = [.int i] := by
  cases h with
  | cons h1 h2 =>
    cases h2
    obtain ⟨v, e, q⟩ := h1
    cases e
    rw [q.int_inv]
theorem ar2 {H0 F H : Hp} {vs : List V} (h : ArOk H0 F H vs [.dat (.int i), .dat (.int j)]) : vs = [.int i, .int j] := by
  cases h with
  | cons h1 h2 =>
    obtain ⟨v, e, q⟩ := h1
    cases e
    rw [q.int_inv, ar1 h2]
theorem i_r1P [fx : Fx X sc N k] {Pn : Int → Prop} (h : DP X ρ a (fun d => ∃ n : Int, d = .int n ∧ Pn n ∧ n ≤ 16777216 ∧ -(2 ^ 62) ≤ n)) (hg : glB sc "range" = true := by decide +kernel) (hs : starEach [a] X.env = [(false, eval a X.env)] := by rfl) : DI X ρ tg (.Call (.Name "range" p) [a] [] pos) (fun x => ∃ n : Int, x = rngD 0 n.toNat ∧ Pn n) :=
  PI.weak (pi_range1 (gl_of fx.hsc hg).1 (fx.bn _ bn_range) (a_dat h a_nil hs) hs) fun σ H R ⟨F0, H0, F, g, r, q⟩ => ⟨F0, H0, F, g, r, fun vs as F1 H1 p1 g1 s1 r1 i1 => by
    obtain ⟨d, r', rfl, ⟨n, rfl, hp, hn, hn2⟩, rfl⟩ := p1
    exact ⟨n, ar1 i1, hn2, by omega, q _ _ F1 H1 ⟨n, rfl, hp⟩ g1 s1 r1 (walks_rng 0 n.toNat) (by rw [rngD_len, sizeLine_eq]; omega)⟩⟩
theorem i_r1 [fx : Fx X sc N k] {n : Nat} (h : DE X ρ a (.int n)) (hn : n ≤ 16777216) (hg : glB sc "range" = true := by decide +kernel) (hs : starEach [a] X.env = [(false, eval a X.env)] := by rfl) : DI X ρ tg (.Call (.Name "range" p) [a] [] pos) (fun x => x = rngD 0 n) :=
  PI.weak (pi_range1 (gl_of fx.hsc hg).1 (fx.bn _ bn_range) (a_d h a_nil hs) hs) fun σ H R ⟨F0, H0, F, g, r, q⟩ => ⟨F0, H0, F, g, r, fun vs as F1 H1 p1 g1 s1 r1 i1 => by
    subst p1
    exact ⟨n, ar1 i1, by omega, by omega, q _ _ F1 H1 rfl g1 s1 r1 (walks_rng 0 n) (by rw [rngD_len, sizeLine_eq]; omega)⟩⟩
theorem i_r2 [fx : Fx X sc N k] (h : DE X ρ a (.int i)) (h' : DE X ρ b (.int j)) (hi : -16777216 ≤ i ∧ i ≤ 16777216 ∧ -16777216 ≤ j ∧ j ≤ 16777216 ∧ j - i ≤ 16777216) (hg : glB sc "range" = true := by decide +kernel) (hs : starEach [a, b] X.env = [(false, eval a X.env), (false, eval b X.env)] := by rfl) (hs2 : starEach [b] X.env = [(false, eval b X.env)] := by rfl) : DI X ρ tg (.Call (.Name "range" p) [a, b] [] pos) (fun x => x = rngD i (j - i).toNat) :=
  PI.weak (pi_range2 (gl_of fx.hsc hg).1 (fx.bn _ bn_range) (a_d h (a_d h' a_nil (by rw [hs2]; rfl)) (by rw [hs, hs2])) hs hs2) fun σ H R ⟨F0, H0, F, g, r, q⟩ => ⟨F0, H0, F, g, r, fun vs as F1 H1 p1 g1 s1 r1 i1 => by
    subst p1
    exact ⟨i, j, ar2 i1, by omega, q _ _ F1 H1 rfl g1 s1 r1 (walks_rng i (j - i).toNat) (by rw [rngD_len, sizeLine_eq]; omega)⟩⟩

/-! ### comprehensions -/
theorem Comp.len {Pt : Nat → PyData → Bool → Prop} {Pe : Nat → PyData → PyData → Prop} {ds es : List PyData} (h : Comp Pt Pe ds es) : es.length ≤ ds.length := by
  induction h with
  | nil => exact Nat.le_refl _
  | out _ _ ih => rw [List.length_append]; omega
  | keep _ _ _ ih => rw [List.length_append, List.length_append, List.length_singleton, List.length_singleton]; omega
theorem Comp.mem {Pt : Nat → PyData → Bool → Prop} {Pe : Nat → PyData → PyData → Prop} {ds es : List PyData} (h : Comp Pt Pe ds es) : ∀ y ∈ es, ∃ (n : Nat) (d : PyData), ds[n]? = some d ∧ Pt n d true ∧ Pe n d y := by
  induction h with
  | nil => intro y hy; cases hy
  | out _ _ ih =>
    intro y hy
    obtain ⟨n, d, h1, h2⟩ := ih y hy
    exact ⟨n, d, by rw [List.getElem?_append_left (List.getElem?_eq_some_iff.mp h1).1]; exact h1, h2⟩
  | keep _ q1 q2 ih =>
    intro y hy
    rcases List.mem_append.mp hy with hy | hy
    · obtain ⟨n, d, h1, h2⟩ := ih y hy
      exact ⟨n, d, by rw [List.getElem?_append_left (List.getElem?_eq_some_iff.mp h1).1]; exact h1, h2⟩
    · rw [List.mem_singleton.mp hy]
      exact ⟨_, _, by simp, q1, q2⟩
/-- by functions -/
theorem Comp.fn {α : Type} {enc : α → PyData} {f : α → Bool} {g : α → PyData} {xs0 : List α} {Pt : Nat → PyData → Bool → Prop} {Pe : Nat → PyData → PyData → Prop} (ht : ∀ n x b, xs0[n]? = some x → Pt n (enc x) b → b = f x) (he : ∀ n x y, xs0[n]? = some x → f x = true → Pe n (enc x) y → y = g x) :
    ∀ {xs zs : List α} {ds es : List PyData}, Comp Pt Pe ds es → ds = xs.map enc → xs0 = xs ++ zs → es = (xs.filter f).map g := by
  intro xs zs ds es h
  induction h generalizing xs zs with
  | nil =>
    intro e _
    cases xs with
    | nil => rfl
    | cons x xs => cases e
  | @out x0 us vs c q ih =>
    intro e e0
    obtain ⟨ys, zs', rfl, e1, e2⟩ := List.map_eq_append_iff.mp e.symm
    match zs', e2 with
    | [z], e2 =>
      have ez : enc z = x0 := by simpa using e2
      have el : us.length = ys.length := by rw [← e1, List.length_map]
      have hz : xs0[us.length]? = some z := by rw [e0, el]; simp
      rw [ih e1.symm (by rw [e0, List.append_assoc])]
      subst ez
      have := ht _ z _ hz q
      simp [← this]
  | @keep x0 y0 us vs c q1 q2 ih =>
    intro e e0
    obtain ⟨ys, zs', rfl, e1, e2⟩ := List.map_eq_append_iff.mp e.symm
    match zs', e2 with
    | [z], e2 =>
      have ez : enc z = x0 := by simpa using e2
      have el : us.length = ys.length := by rw [← e1, List.length_map]
      have hz : xs0[us.length]? = some z := by rw [e0, el]; simp
      rw [ih e1.symm (by rw [e0, List.append_assoc])]
      subst ez
      have h1 := ht _ z _ hz q1
      have h2 := he _ z _ hz h1.symm q2
      simp [← h1, h2]
/-- the address of what a slot holds -/
def Sl.loc : Sl → Option Addr
  | .own a _ => some a
  | .dct a _ => some a
  | .obj a _ _ => some a
  | _ => none
theorem Rep.loc {H0 F H : Hp} {σ : St} (r : Rep H0 ρ σ F H) {s : Sl} (h : s ∈ ρ) {A : Addr} (e : s.loc = some A) : ∃ o, H A = some o := by
  obtain ⟨n, hn, en⟩ := List.getElem_of_mem h
  obtain ⟨x, _, q⟩ := r.ok n s (by rw [List.getElem?_eq_getElem hn, en])
  cases s with
  | own b P => cases e; obtain ⟨_, _, _, vs, _, q, _⟩ := q; exact ⟨_, q⟩
  | dct b kvs => cases e; obtain ⟨_, _, _, q⟩ := q; exact ⟨_, q⟩
  | obj b C fs => cases e; obtain ⟨_, _, _, q, _⟩ := q; exact ⟨_, q⟩
  | any => cases e
  | dat d => cases e
/-- another object is written -/
theorem Rep.put {H0 F H : Hp} {σ : St} (r : Rep H0 ρ σ F H) {A : Addr} {o : HO} (h : ∀ s ∈ ρ, s.loc ≠ some A) : Rep H0 ρ σ F (upd H A o) := by
  refine ⟨r.len, fun n s e => ?_, r.ap⟩
  obtain ⟨x, q1, q2⟩ := r.ok n s e
  have hs := h s (List.mem_of_getElem? e)
  refine ⟨x, q1, ?_⟩
  cases s with
  | any => trivial
  | dat d => exact q2
  | own b P =>
    obtain ⟨e1, z1, z2, vs, es, z3, z4⟩ := q2
    exact ⟨e1, z1, z2, vs, es, by rw [upd_ne (fun q => hs (by rw [q]; rfl))]; exact z3, z4⟩
  | dct b kvs =>
    obtain ⟨e1, z1, z2, z3⟩ := q2
    exact ⟨e1, z1, z2, by rw [upd_ne (fun q => hs (by rw [q]; rfl))]; exact z3⟩
  | obj b C fs =>
    obtain ⟨e1, dx, vs, z1, z2⟩ := q2
    exact ⟨e1, dx, vs, by rw [upd_ne (fun q => hs (by rw [q]; rfl))]; exact z1, z2⟩
theorem Rep.wipe {H0 F H : Hp} : ∀ (is : List Nat) {ρ : List Sl} {σ : St}, Rep H0 ρ σ F H → Rep H0 (is.foldr (fun i r => r.set i .any) ρ) (L2.wipe σ is) F H
  | [], _, _, r => r
  | i :: is, _, _, r => by
    unfold L2.wipe
    exact (Rep.wipe is r).forget i none
/-- the tests of a clause -/
def tesP (P : Bool → Prop) : Prop := P true
structure DTs (X : Cx) (ρ : List Sl) (ifs : List Expr) (P : Bool → Prop) : Prop where
  ok : PTs X ifs (tQ ρ P)
theorem ts_0 : DTs X ρ [] (fun x => x = true) := ⟨⟨fun pins s σ H Q I ⟨F0, H0, F, g, r, q⟩ => pts_nil.run pins s σ H Q I (q true F H rfl g (Same.refl _) r)⟩⟩
theorem ts_1 {P : Bool → Prop} (h : DQ X ρ c P) : DTs X ρ [c] P := ⟨pts_one h⟩

abbrev Bk (X : Cx) (s : Shared) (H : Hp) (scope : Scope) (C : Addr) (cl : List (Str × Addr)) (fp : List Addr) : Cx := X.blk s H scope (compEnvC scope cl C X.env) fp
theorem fx_blk [fx : Fx X sc N k] {scope : Scope} (hk : scope.kind = .function) (s : Shared) (H : Hp) (C : Addr) (cl : List (Str × Addr)) (fp : List Addr) : Fx (Bk X s H scope C cl fp) (relS scope sc) N k :=
  ⟨fx.hN, fx.nd, by show relS scope X.env.scope = _; rw [fx.hsc], hk, fx.calm, fx.room, fx.bn, rfl⟩
theorem kind_of {scope : Scope} {own : List (Str × Nat)} (h : blkC N sc scope own = true) : scope.kind = .function := (blkOk_by h).kind
theorem wipe_set {σ : St} : ∀ {is : List Nat} {i : Nat} {x : Option V}, i ∈ is → L2.wipe ((L2.wipe σ is).set i x) is = L2.wipe σ is := by
  intro is i x h
  apply List.ext_getElem?
  intro n
  have key : ∀ (is : List Nat) (σ : St), (L2.wipe σ is)[n]? = if n ∈ is then (if n < σ.length then some none else none) else σ[n]? := by
    intro is
    induction is with
    | nil => intro σ; simp [L2.wipe]
    | cons v vs ih =>
      intro σ
      unfold L2.wipe
      rw [List.getElem?_set, L2.wipe_length]
      by_cases hv : v = n
      · subst hv; simp
      · rw [if_neg hv, ih σ]
        have : (n ∈ v :: vs) ↔ n ∈ vs := by
          rw [List.mem_cons]
          exact ⟨fun h => h.resolve_left fun q => hv q.symm, .inr⟩
        simp only [this]
  rw [key, key, List.length_set, L2.wipe_length]
  by_cases hn : n ∈ is
  · rw [if_pos hn, if_pos hn]
  · rw [if_neg hn, if_neg hn, List.getElem?_set_ne (fun q => hn (by rw [← q]; exact h)), key, if_neg hn]
theorem wipe_twice {σ : St} {is : List Nat} : L2.wipe (L2.wipe σ is) is = L2.wipe σ is := by
  apply List.ext_getElem?
  intro n
  have key : ∀ (is : List Nat) (σ : St), (L2.wipe σ is)[n]? = if n ∈ is then (if n < σ.length then some none else none) else σ[n]? := by
    intro is
    induction is with
    | nil => intro σ; simp [L2.wipe]
    | cons v vs ih =>
      intro σ
      unfold L2.wipe
      rw [List.getElem?_set, L2.wipe_length]
      by_cases hv : v = n
      · subst hv; simp
      · rw [if_neg hv, ih σ]
        have : (n ∈ v :: vs) ↔ n ∈ vs := by
          rw [List.mem_cons]
          exact ⟨fun h => h.resolve_left fun q => hv q.symm, .inr⟩
        simp only [this]
  rw [key, key, L2.wipe_length]
  by_cases hn : n ∈ is
  · rw [if_pos hn, if_pos hn]
  · rw [if_neg hn, if_neg hn]
abbrev slWp (ρ : List Sl) (is : List Nat) : List Sl := is.foldr (fun i r => r.set i .any) ρ
theorem slWp_out {is : List Nat} {j : Nat} (h : j ∉ is) : (slWp ρ is)[j]? = ρ[j]? := by
  induction is with
  | nil => rfl
  | cons i is ih =>
    show ((slWp ρ is).set i .any)[j]? = _
    rw [List.getElem?_set_ne (fun q => h (by rw [q]; exact List.mem_cons_self)), ih fun q => h (List.mem_cons_of_mem _ q)]
/-- no mutable thing stands at these places -/
def Sl.plain : Sl → Bool
  | .any => true
  | .dat _ => true
  | _ => false
def plainAt (ρ : List Sl) (is : List Nat) : Bool := is.all fun j => match ρ[j]? with | some s => s.plain | none => true
theorem plain_set {is : List Nat} {ρ : List Sl} {n : Nat} {s : Sl} (hs : s.plain = true) (h : plainAt ρ is = true) : plainAt (ρ.set n s) is = true := by
  refine List.all_eq_true.mpr fun j hj => ?_
  have q := List.all_eq_true.mp h j hj
  rw [List.getElem?_set]
  by_cases e : n = j
  · rw [if_pos e]
    by_cases hl : n < ρ.length
    · rw [if_pos hl]; exact hs
    · rw [if_neg hl]
  · rw [if_neg e]; exact q
theorem plain_get {is : List Nat} {ρ : List Sl} {j : Nat} {s : Sl} (h : plainAt ρ is = true) (hj : j ∈ is) (e : ρ[j]? = some s) : s.plain = true := by
  have q := List.all_eq_true.mp h j hj
  rw [e] at q
  exact q
theorem slWp_plain {is : List Nat} {ρ : List Sl} : plainAt (slWp ρ is) is = true := by
  refine List.all_eq_true.mpr fun j hj => ?_
  induction is with
  | nil => cases hj
  | cons i is ih =>
    show (match ((slWp ρ is).set i .any)[j]? with | some s => s.plain | none => true) = true
    rw [List.getElem?_set]
    by_cases e : i = j
    · rw [if_pos e]
      split
      · rename_i h
        split at h
        · cases h; rfl
        · cases h
      · rfl
    · rw [if_neg e]
      exact ih ((List.mem_cons.mp hj).resolve_left fun q => e q.symm)
theorem plain_loc {s : Sl} (h : s.plain = true) : s.loc = none := by
  cases s with
  | any => rfl
  | dat _ => rfl
  | own _ _ => cases h
  | dct _ _ => cases h
  | obj _ _ _ => cases h
/-- a target: at the item d (of those that dom says) the slots is are set as T says -/
structure Tg (g : TG) (is : List Nat) (T : PyData → List Sl → List Sl) (dom : PyData → Prop) : Prop where
  run : ∀ (H0 F H : Hp) (σ : St) (ρ : List Sl) (v : V) (d : PyData) (Q : St → Hp → Prop), dom d → Same F H → Is F v d → Rep H0 ρ σ F H → L2.wipe σ is = σ → (∀ σ', L2.wipe σ' is = L2.wipe σ is → Rep H0 (T d ρ) σ' F H → Q σ' H) → g v σ H Q
  out : ∀ d (ρ : List Sl) (j : Nat), j ∉ is → (T d ρ)[j]? = ρ[j]?
  pl : ∀ d (ρ : List Sl), plainAt ρ is = true → plainAt (T d ρ) is = true
theorem tg_1 {n : Nat} {is : List Nat} (h : n ∈ is) : Tg (gName n) is (fun d ρ => ρ.set n (.dat d)) (fun _ => True) where
  run := fun H0 F H σ ρ v d Q _ s i r hw q => q (σ.set n (some v)) (by
    have e := wipe_set (σ := σ) (x := some v) h
    rw [hw] at e
    rw [e, hw]) (r.setD i)
  out := fun d ρ j hj => List.getElem?_set_ne (fun q => hj (by rw [← q]; exact h))
  pl := fun d ρ hp => plain_set rfl hp
theorem tg_2 {K : PySem.W.Frag} {n m : Nat} {is : List Nat} (h1 : n ∈ is) (h2 : m ∈ is) : Tg (gTup K 2 (gCons (gName n) (gCons (gName m) gNil))) is (fun d ρ => match d with | .tuple [d1, d2] => (ρ.set n (.dat d1)).set m (.dat d2) | _ => ρ) (fun d => ∃ d1 d2, d = .tuple [d1, d2]) where
  run := fun H0 F H σ ρ v d Q hd s i r hw q => by
    obtain ⟨d1, d2, rfl⟩ := hd
    obtain ⟨A, vs, rfl, e1, e2, _, e4⟩ := i.tup_inv
    cases e2 with
    | @cons v1 _ _ _ i1 t =>
      cases t with
      | @cons v2 _ _ _ i2 t =>
        cases t
        refine ⟨A, _, rfl, (e1.mono s).sq, rfl, v1, _, rfl, v2, _, rfl, rfl, q ((σ.set n (some v1)).set m (some v2)) ?_ ((r.setD ⟨i1, e4 _ (by simp)⟩).setD ⟨i2, e4 _ (by simp)⟩)⟩
        have a1 := wipe_set (σ := σ) (x := some v1) h1
        rw [hw] at a1
        -- the two stores leave what is wiped
        have w2 : ∀ (τ : St) (x : Option V), L2.wipe τ is = L2.wipe σ is → L2.wipe (τ.set m x) is = L2.wipe σ is := fun τ x e => by
          apply List.ext_getElem?
          intro j
          by_cases hj : j ∈ is
          · have z : ∀ (is : List Nat) (τ : St), j ∈ is → (L2.wipe τ is)[j]? = if j < τ.length then some none else none := by
              intro is
              induction is with
              | nil => intro τ h; cases h
              | cons u us ih =>
                intro τ h
                unfold L2.wipe
                rw [List.getElem?_set, L2.wipe_length]
                by_cases hu : u = j
                · rw [if_pos hu, hu]
                · rw [if_neg hu]
                  exact ih τ ((List.mem_cons.mp h).resolve_left fun q => hu q.symm)
            have hl : τ.length = σ.length := by
              have := congrArg List.length e
              rw [L2.wipe_length, L2.wipe_length] at this
              exact this
            rw [z is _ hj, z is _ hj, List.length_set, hl]
          · rw [L2.wipe_out hj, List.getElem?_set_ne (fun q => hj (by rw [← q]; exact h2)), ← L2.wipe_out (σ := τ) hj, e]
        refine w2 _ _ ?_
        rw [a1, hw]
  out := fun d ρ j hj => by
    have e1 : n ≠ j := fun q => hj (by rw [← q]; exact h1)
    have e2 : m ≠ j := fun q => hj (by rw [← q]; exact h2)
    split
    · rw [List.getElem?_set_ne e2, List.getElem?_set_ne e1]
    · rfl
  pl := fun d ρ hp => by
    split
    · exact plain_set rfl (plain_set rfl hp)
    · exact hp
theorem Rep.back {H0 F H F' H' : Hp} {σ σ' : St} {is : List Nat} {ρ' : List Sl} (r : Rep H0 ρ σ F H) (r' : Rep H0 ρ' σ' F' H') (e : Same F F') (hp : plainAt ρ is = true) (hσ : ∀ j, j ∉ is → σ'[j]? = σ[j]?) (hρ : ∀ j, j ∉ is → ρ'[j]? = ρ[j]?) : Rep H0 ρ σ F' H' := by
  refine ⟨r.len, fun n s q => ?_, r.ap⟩
  obtain ⟨x, q1, q2⟩ := r.ok n s q
  by_cases hn : n ∈ is
  · have hpl := List.all_eq_true.mp hp n hn
    rw [q] at hpl
    refine ⟨x, q1, ?_⟩
    cases s with
    | any => trivial
    | dat d =>
      obtain ⟨v, e1, e2⟩ := q2
      exact ⟨v, e1, e2.mono e⟩
    | own b P => cases hpl
    | dct b kvs => cases hpl
    | obj b C fs => cases hpl
  · obtain ⟨y, z1, z2⟩ := r'.ok n s (by rw [hρ n hn]; exact q)
    rw [hσ n hn, q1] at z1
    cases z1
    exact ⟨x, q1, z2⟩
theorem Rep.h0 {H0 F H : Hp} {σ : St} (r : Rep H0 ρ σ F H) {A : Addr} {o : HO} (h : ∀ s ∈ ρ, s.loc ≠ some A) : Rep (upd H0 A o) ρ σ F H := by
  refine ⟨r.len, fun n s e => ?_, r.ap⟩
  obtain ⟨x, q1, q2⟩ := r.ok n s e
  have hs := h s (List.mem_of_getElem? e)
  refine ⟨x, q1, ?_⟩
  cases s with
  | any => trivial
  | dat d => exact q2
  | own b P =>
    obtain ⟨e1, z1, z2⟩ := q2
    exact ⟨e1, by rw [upd_ne (fun q => hs (by rw [q]; rfl))]; exact z1, z2⟩
  | dct b kvs =>
    obtain ⟨e1, z1, z2⟩ := q2
    exact ⟨e1, by rw [upd_ne (fun q => hs (by rw [q]; rfl))]; exact z1, z2⟩
  | obj b C fs => exact q2
theorem Rep.unh0 {H0 F H : Hp} {σ : St} {A : Addr} {o : HO} (r : Rep (upd H0 A o) ρ σ F H) (h0 : H0 A = none) : Rep H0 ρ σ F H := by
  refine ⟨r.len, fun n s e => ?_, r.ap⟩
  obtain ⟨x, q1, q2⟩ := r.ok n s e
  have key : ∀ b, upd H0 A o b = none → H0 b = none := fun b q => by
    by_cases hb : b = A
    · rw [hb]; exact h0
    · rw [upd_ne hb] at q; exact q
  refine ⟨x, q1, ?_⟩
  cases s with
  | any => trivial
  | dat d => exact q2
  | own b P =>
    obtain ⟨e1, z1, z2⟩ := q2
    exact ⟨e1, key b z1, z2⟩
  | dct b kvs =>
    obtain ⟨e1, z1, z2⟩ := q2
    exact ⟨e1, key b z1, z2⟩
  | obj b C fs => exact q2
theorem Gw.h0 {F0 H0 F H : Hp} (g : Gw F0 H0 F H) {A : Addr} {o : HO} (hA : H A = some o) (hF : F A = none) : Gw F0 (upd H0 A o) F H :=
  ⟨fun b u e => by
    by_cases hb : b = A
    · rw [hb, upd_same] at e; rw [hb, hA]; exact e
    · rw [upd_ne hb] at e; exact g.hh _ _ e, g.ff, g.fh, fun b u e => by
    rcases g.nw b u e with q | q
    · exact .inl q
    · refine .inr ?_
      rw [upd_ne (fun z => by rw [z, hF] at e; cases e)]
      exact q⟩
theorem Gw.unh0 {F0 H0 F H : Hp} {A : Addr} {o : HO} (g : Gw F0 (upd H0 A o) F H) (h0 : H0 A = none) (f0 : F0 A = none) : Gw F0 H0 F H ∧ F A = none ∧ H A = some o :=
  have hF : F A = none := g.stays f0 upd_same
  ⟨⟨fun b u e => g.hh b u (by rw [upd_ne (ne_of_none e h0)]; exact e), g.ff, g.fh, fun b u e => by
    rcases g.nw b u e with q | q
    · exact .inl q
    · refine .inr ?_
      rw [upd_ne (fun z => by rw [z, hF] at e; cases e)] at q
      exact q⟩, hF, g.hh _ _ upd_same⟩
/-- what a comprehension needs -/
structure LcOk (X : Cx) (ρ : List Sl) (elt tg e : Expr) (ifs : List Expr) (scope : Scope) (P : PyData → Prop) : Prop where
  ex : ∃ (own : List (Str × Nat)) (wi : TI) (g : TG) (tt : TT) (te : TE), PI X tg e wi ∧ BlkOk X.N X.env.scope scope own ∧ (∀ (s : Shared) (H : Hp) (C : Addr) (cl : List (Str × Addr)) (fp : List Addr), PG (Bk X s H scope C cl fp) tg g) ∧
    (∀ (s : Shared) (H : Hp) (C : Addr) (cl : List (Str × Addr)) (fp : List Addr), PTs (Bk X s H scope C cl fp) ifs tt) ∧ (∀ (s : Shared) (H : Hp) (C : Addr) (cl : List (Str × Addr)) (fp : List Addr), PE (Bk X s H scope C cl fp) elt te) ∧
    ∀ σ H Q, tE ρ P σ H Q → tLc wi g tt te (own.map (·.2)) σ H Q
/-- [elt for tg in iter if ..]: what it may give -/
theorem lc_core [fx : Fx X sc N k] {scope : Scope} {ifs : List Expr} {g : TG} {T : PyData → List Sl → List Sl} {dom : PyData → Prop} {Pl : List PyData → Prop} {Pt : Nat → PyData → Bool → Prop} {Pe : Nat → PyData → PyData → Prop} (own : List (Str × Nat)) (hi : DI X ρ tg e Pl)
    (hT : Tg g (own.map (·.2)) T dom) (hdom : ∀ ds, Pl ds → ∀ d ∈ ds, dom d)
    (hg : ∀ (s : Shared) (H : Hp) (C : Addr) (cl : List (Str × Addr)) (fp : List Addr), PG (Bk X s H scope C cl fp) tg g)
    (ht : ∀ s H C cl fp n d ds, Fx (Bk X s H scope C cl fp) (relS scope sc) N k → Pl ds → ds[n]? = some d → DTs (Bk X s H scope C cl fp) (T d (slWp ρ (own.map (·.2)))) ifs (Pt n d))
    (he : ∀ s H C cl fp n d ds, Fx (Bk X s H scope C cl fp) (relS scope sc) N k → Pl ds → ds[n]? = some d → Pt n d true → DP (Bk X s H scope C cl fp) (T d (slWp ρ (own.map (·.2)))) elt (Pe n d))
    (ok : blkC N sc scope own = true) (hpl : plainAt ρ (own.map (·.2)) = true) :
    LcOk X ρ elt tg e ifs scope (fun y => ∃ ds es, y = .list es ∧ Pl ds ∧ Comp Pt Pe ds es) := by
  have hk := kind_of ok
  let is := own.map (·.2)
  let tt : TT := fun σ H Q => ∃ n d ds, Pl ds ∧ ds[n]? = some d ∧ tQ (T d (slWp ρ is)) (Pt n d) σ H Q
  let te : TE := fun σ H Q => ∃ n d ds, Pl ds ∧ ds[n]? = some d ∧ Pt n d true ∧ tE (T d (slWp ρ is)) (Pe n d) σ H Q
  refine ⟨own, tI ρ Pl, g, tt, te, hi, by rw [fx.hN, fx.hsc]; exact blkOk_by ok, hg, fun s H C cl fp => ⟨fun pins s' σ H' Q I ⟨n, d, ds, q1, q2, q3⟩ => (ht s H C cl fp n d ds (fx_blk hk s H C cl fp) q1 q2).ok.run pins s' σ H' Q I q3⟩,
    fun s H C cl fp => ⟨fun pins s' σ H' Q I ⟨n, d, ds, q1, q2, q3, q4⟩ => (he s H C cl fp n d ds (fx_blk hk s H C cl fp) q1 q2 q3).run pins s' σ H' Q I q4⟩, ?_⟩
  rintro σ H Q ⟨F0, H0, F, g, r, q⟩
  refine ⟨F0, H0, F, g, r, fun J ds F1 H1 pl g1 s1 r1 wk hz D hD => ?_⟩
  have hloc : ∀ s ∈ ρ, s.loc ≠ some D := fun s hs e => by
    obtain ⟨o, ho⟩ := r1.loc hs e
    rw [hD] at ho
    cases ho
  have h0D : H0 D = none := g1.hh.free hD
  have f1D : F1 D = none := g1.fh.free hD
  have f0D : F0 D = none := g1.ff.free f1D
  refine ⟨fun n m H' => m = ds.length - n ∧ n ≤ ds.length ∧ ∃ F' acc es, Gw F0 H0 F' H' ∧ Same F1 F' ∧ Rep H0 ρ σ F' H' ∧ F' D = none ∧ H' D = some (.lst acc) ∧ DqA F' acc es ∧ (∀ d ∈ es, Sz d) ∧ Comp Pt Pe (ds.take n) es,
    ⟨ds.length, by omega, Nat.zero_le _, F1, [], [], g1.put h0D f1D, Same.refl _, r1.put hloc, f1D, upd_same, .nil, (fun _ h => by cases h), .nil⟩, ?_⟩
  rintro n m H' ⟨rfl, hn, F', acc, es, g2, s2, r2, fD, hL, hA, hS, hC⟩
  obtain ⟨w1, w2⟩ := wk F' H' s2 g2.fh n hn
  by_cases hlt : n < ds.length
  · obtain ⟨go, yld⟩ := w1 hlt
    refine .inr ⟨go, fun H4 => ∃ F' acc es, Gw F0 H0 F' H4 ∧ Same F1 F' ∧ Rep H0 ρ σ F' H4 ∧ F' D = none ∧ H4 D = some (.lst acc) ∧ DqA F' acc es ∧ (∀ d ∈ es, Sz d) ∧ Comp Pt Pe (ds.take (n + 1)) es,
      fun H4 q4 => ⟨ds.length - (n + 1), by omega, rfl, hlt, q4⟩, fun y H3 hy => ?_⟩
    obtain ⟨F3, d, g3, hd, i3⟩ := yld y H3 hy
    have hdm : d ∈ ds := List.mem_of_getElem? hd
    have htk : ds.take (n + 1) = ds.take n ++ [d] := by rw [List.take_add_one, hd]; rfl
    have g3' := g2.trans g3
    have r3 := r2.mono g3
    have f3D : F3 D = none := g3.stays fD hL
    have h3D : H3 D = some (.lst acc) := g3.hh _ _ hL
    refine hT.run H0 F3 H3 _ (slWp ρ is) y d _ (hdom ds pl d hdm) g3'.fh i3 (Rep.wipe is r3) wipe_twice fun σ2 hw2 r4 => ⟨by rw [hw2]; exact wipe_twice, ?_⟩
    rw [wipe_twice] at hw2
    have hσ : ∀ j, j ∉ is → σ2[j]? = σ[j]? := fun j hj => by rw [← L2.wipe_out (σ := σ2) hj, hw2, L2.wipe_out hj]
    have hρ : ∀ j, j ∉ is → (T d (slWp ρ is))[j]? = ρ[j]? := fun j hj => by rw [hT.out d _ j hj, slWp_out hj]
    have hplT := hT.pl d _ (slWp_plain (ρ := ρ) (is := is))
    have hloc2 : ∀ s ∈ T d (slWp ρ is), s.loc ≠ some D := fun s hs e => by
      obtain ⟨j, hj, ej⟩ := List.getElem_of_mem hs
      have e1 : (T d (slWp ρ is))[j]? = some s := by rw [List.getElem?_eq_getElem hj, ej]
      by_cases hji : j ∈ is
      · rw [plain_loc (plain_get hplT hji e1)] at e
        cases e
      · exact hloc s (List.mem_of_getElem? (by rw [← hρ j hji]; exact e1)) e
    -- back in the def's slots
    have fin : ∀ {F4 H4 : Hp}, Gw F0 (upd H0 D (.lst acc)) F4 H4 → Same F3 F4 → Rep (upd H0 D (.lst acc)) (T d (slWp ρ is)) σ2 F4 H4 → Gw F0 H0 F4 H4 ∧ Same F1 F4 ∧ Rep H0 ρ σ F4 H4 ∧ F4 D = none ∧ H4 D = some (.lst acc) ∧ DqA F4 acc es :=
      fun {F4 H4} g4 s4 r4 => by
        obtain ⟨z1, z2, z3⟩ := g4.unh0 h0D f0D
        exact ⟨z1, s2.trans (g3.ff.trans s4), r3.back (r4.unh0 h0D) s4 hpl hσ hρ, z2, z3, dqA_mono (g3.ff.trans s4) _ _ hA⟩
    have hln : (ds.take n).length = n := by rw [List.length_take]; omega
    refine ⟨n, d, ds, pl, hd, F0, upd H0 D (.lst acc), F3, g3'.h0 h3D f3D, r4.h0 hloc2, fun b F4 H4 pb g4 s4 r5 => ?_⟩
    cases b with
    | false =>
      rw [if_neg Bool.false_ne_true]
      obtain ⟨z1, z2, z3, z4, z5, z6⟩ := fin g4 s4 r5
      exact ⟨F4, acc, es, z1, z2, z3, z4, z5, z6, hS, by rw [htk]; exact hC.out (by rw [hln]; exact pb)⟩
    | true =>
      rw [if_pos rfl]
      refine ⟨n, d, ds, pl, hd, pb, F0, upd H0 D (.lst acc), F4, g4, r5, fun v y' F5 H5 py g5 s5 r6 i6 => ?_⟩
      obtain ⟨z1, z2, z3, z4, z5, z6⟩ := fin g5 (s4.trans s5) r6
      have hlen : acc.length ≤ n := by rw [dqA_len z6]; have := hC.len; rw [List.length_take] at this; omega
      refine ⟨acc, z5, by omega, F5, acc ++ [v], es ++ [y'], z1.put h0D z4, z2, z3.put hloc, z4, upd_same, dqA_app z6 (.cons i6.1 .nil), fun q hq => ?_, by rw [htk]; exact hC.keep (by rw [hln]; exact pb) (by rw [hln]; exact py)⟩
      rcases List.mem_append.mp hq with hq | hq
      · exact hS q hq
      · rw [List.mem_singleton.mp hq]; exact i6.2
  · have e : n = ds.length := by omega
    subst e
    rw [List.take_length] at hC
    have hz2 : es.length ≤ sizeLine := Nat.le_trans hC.len hz
    refine .inl ⟨w2 rfl, ?_⟩
    -- the new list becomes data
    have gF : Gw F0 H0 (upd F' D (.lst acc)) H' := ⟨g2.hh, g2.ff.trans (same_new fD), fun b u e => by
      by_cases hb : b = D
      · rw [hb, upd_same] at e; rw [hb, hL]; exact e
      · rw [upd_ne hb] at e; exact g2.fh _ _ e, fun b u e => by
      by_cases hb : b = D
      · exact .inr (by rw [hb]; exact h0D)
      · rw [upd_ne hb] at e; exact g2.nw _ _ e⟩
    have rF : Rep H0 ρ σ (upd F' D (.lst acc)) H' := by
      refine ⟨r2.len, fun j s e => ?_, r2.ap⟩
      obtain ⟨x, q1, q2⟩ := r2.ok j s e
      have hs := hloc s (List.mem_of_getElem? e)
      refine ⟨x, q1, ?_⟩
      cases s with
      | any => trivial
      | dat d => obtain ⟨v, e1, e2⟩ := q2; exact ⟨v, e1, e2.mono (same_new fD)⟩
      | own b P =>
        obtain ⟨e1, z1, z2, vs, es', z3, z4, z5⟩ := q2
        exact ⟨e1, z1, by rw [upd_ne (fun q => hs (by rw [q]; rfl))]; exact z2, vs, es', z3, dqA_mono (same_new fD) _ _ z4, z5⟩
      | dct b kvs =>
        obtain ⟨e1, z1, z2, z3⟩ := q2
        exact ⟨e1, z1, by rw [upd_ne (fun q => hs (by rw [q]; rfl))]; exact z2, z3⟩
      | obj b C fs =>
        obtain ⟨e1, dx, vs, z1, z2⟩ := q2
        exact ⟨e1, dx, vs, z1, fun f d e => (z2 f d e).mono (same_new fD)⟩
    exact q (.ref D) (.list es) _ H' ⟨ds, es, rfl, pl, hC⟩ gF (s1.trans (s2.trans (same_new fD))) rF ⟨.lst upd_same (dqA_mono (same_new fD) _ _ hA), sz_list.mpr ⟨hz2, hS⟩⟩
/-- as a value -/
theorem e_lcK [fx : Fx X sc N k] {scope : Scope} {ifs : List Expr} (h : LcOk X ρ elt tg e ifs scope P) (hs : ∀ x, foldedSetIterable e X.env x = pure x := by intro _; rfl) : DP X ρ (.ListComp elt [⟨tg, e, ifs, 0⟩] scope pos) P := by
  obtain ⟨own, wi, g, tt, te, h1, h2, h3, h4, h5, h6⟩ := h.ex
  exact PE.weak (pe_lc (pos := pos) (own := own) fx.calm (by rw [fx.hN]; exact fx.nd) h1 h2 h3 h4 h5 hs) h6
/-- a name as the target -/
def tgB (sc scope : Scope) (x : Str) : Bool := match (relS scope sc).names.lookup x with | some .local => true | some .cell => scope.names.lookup x == some .cell | _ => false
theorem pg_blk [fx : Fx X sc N k] {scope : Scope} {x : Str} {n : Nat} {p1 : Pos} (hk : scope.kind = .function) (hN : N[n]? = some x) (hl : tgB sc scope x = true) (s : Shared) (H : Hp) (C : Addr) (cl : List (Str × Addr)) (fp : List Addr) : PG (Bk X s H scope C cl fp) (.Name x p1) (gName n) := by
  have f := fx_blk (X := X) hk s H C cl fp
  unfold tgB at hl
  refine pg_name (by rw [f.hN]; exact f.nd) (by rw [f.hN]; exact hN) ?_ ?_
  · show L2.Loc (Bk X s H scope C cl fp).env.scope x
    rw [f.hsc]
    unfold L2.Loc
    split at hl <;> first | exact .inl (by assumption) | exact .inr (by assumption) | cases hl
  · rw [f.hsc]
    split at hl
    · exact .inr (by assumption)
    · exact .inl hl
    · cases hl
end
end Rb
/-! Rb, part e: comprehensions by functions, statements, defs -/
namespace Rb
open PySem PySem.Spec L2
section
variable {X : Cx} {ρ : List Sl} {sc : Scope} {N : List Str} {k : Nat} {a b c e tg elt : Expr} {rest : List Expr} {sts body els : List Stmt} {pos p p1 : Pos} {Pa Pb : PyData → Prop} {P : Out → Prop} {d da db : PyData} {i j : Int} {ds es : List PyData} {ns : List Int} {x : Str}

theorem LcOk.imp {scope : Scope} {ifs : List Expr} {P P' : PyData → Prop} (h : LcOk X ρ elt tg e ifs scope P) (w : ∀ d, P d → P' d) : LcOk X ρ elt tg e ifs scope P' := by
  obtain ⟨own, wi, g, tt, te, h1, h2, h3, h4, h5, h6⟩ := h.ex
  exact ⟨own, wi, g, tt, te, h1, h2, h3, h4, h5, fun σ H Q ⟨F0, H0, F, g, r, k⟩ => h6 σ H Q ⟨F0, H0, F, g, r, fun v d F' H' p => k v d F' H' (w d p)⟩⟩
/-- [elt for x in xs if ..] by functions -/
theorem l_lc [fx : Fx X sc N k] {scope : Scope} {ifs : List Expr} {α : Type} {enc : α → PyData} {xs : List α} {f : α → Bool} {g : α → PyData} (n : Nat) (hi : DI X ρ (.Name x p1) e (fun ds => ds = xs.map enc)) (hN : N[n]? = some x)
    (ht : ∀ s H C cl fp (y : α), Fx (Bk X s H scope C cl fp) (relS scope sc) N k → y ∈ xs → DTs (Bk X s H scope C cl fp) ((ρ.set n .any).set n (.dat (enc y))) ifs (fun b => b = f y))
    (he : ∀ s H C cl fp (y : α), Fx (Bk X s H scope C cl fp) (relS scope sc) N k → y ∈ xs → f y = true → DE (Bk X s H scope C cl fp) ((ρ.set n .any).set n (.dat (enc y))) elt (g y))
    (ok : blkC N sc scope [(x, n)] = true := by decide +kernel) (hpl : plainAt ρ [n] = true := by rfl) (hl : tgB sc scope x = true := by decide +kernel) :
    LcOk X ρ elt (.Name x p1) e ifs scope (fun y => y = .list ((xs.filter f).map g)) := by
  have key : ∀ (j : Nat) (d : PyData) (ds : List PyData), ds = xs.map enc → ds[j]? = some d → ∃ y, xs[j]? = some y ∧ d = enc y := fun j d ds h1 h2 => by
    rw [h1, List.getElem?_map] at h2
    cases q : xs[j]? with
    | none => rw [q] at h2; cases h2
    | some y => rw [q] at h2; exact ⟨y, rfl, (Option.some.inj h2).symm⟩
  refine LcOk.imp (lc_core (Pt := fun j d b => ∃ y, xs[j]? = some y ∧ d = enc y ∧ b = f y) (Pe := fun j d z => ∃ y, xs[j]? = some y ∧ d = enc y ∧ z = g y) [(x, n)] hi (tg_1 (by simp)) (fun _ _ _ _ => trivial) (pg_blk (kind_of ok) hN hl)
    (fun s H C cl fp j d ds fx' h1 h2 => ?_) (fun s H C cl fp j d ds fx' h1 h2 h3 => ?_) ok hpl) ?_
  · obtain ⟨y, h4, rfl⟩ := key j d ds h1 h2
    have q := ht s H C cl fp y fx' (List.mem_of_getElem? h4)
    exact ⟨⟨fun pins s' σ H' Q I ⟨F0, H0, F, g', r, k'⟩ => q.ok.run pins s' σ H' Q I ⟨F0, H0, F, g', r, fun b F1 H1 pb => k' b F1 H1 ⟨y, h4, rfl, pb⟩⟩⟩⟩
  · obtain ⟨y, h4, h5, h6⟩ := h3
    subst h5
    exact DP.imp (he s H C cl fp y fx' (List.mem_of_getElem? h4) h6.symm) fun z hz => ⟨y, h4, rfl, hz⟩
  · rintro z ⟨ds', es', rfl, h1, h2⟩
    rw [Comp.fn (xs0 := xs) (zs := []) (f := f) (g := g) (enc := enc) ?_ ?_ h2 h1 (by simp)]
    · rintro j y b h3 ⟨y', h4, h5, h6⟩
      rw [h3] at h4
      cases h4
      exact h6
    · rintro j y w h3 _ ⟨y', h4, h5, h6⟩
      rw [h3] at h4
      cases h4
      exact h6
theorem e_lc [fx : Fx X sc N k] {scope : Scope} {ifs : List Expr} {α : Type} {enc : α → PyData} {xs : List α} {f : α → Bool} {g : α → PyData} (n : Nat) (hi : DI X ρ (.Name x p1) e (fun ds => ds = xs.map enc)) (hN : N[n]? = some x)
    (ht : ∀ s H C cl fp (y : α), Fx (Bk X s H scope C cl fp) (relS scope sc) N k → y ∈ xs → DTs (Bk X s H scope C cl fp) ((ρ.set n .any).set n (.dat (enc y))) ifs (fun b => b = f y))
    (he : ∀ s H C cl fp (y : α), Fx (Bk X s H scope C cl fp) (relS scope sc) N k → y ∈ xs → f y = true → DE (Bk X s H scope C cl fp) ((ρ.set n .any).set n (.dat (enc y))) elt (g y))
    (ok : blkC N sc scope [(x, n)] = true := by decide +kernel) (hpl : plainAt ρ [n] = true := by rfl) (hl : tgB sc scope x = true := by decide +kernel) (hs : ∀ x, foldedSetIterable e X.env x = pure x := by intro _; rfl) :
    DE X ρ (.ListComp elt [⟨.Name x p1, e, ifs, 0⟩] scope pos) (.list ((xs.filter f).map g)) := e_lcK (l_lc n hi hN ht he ok hpl hl) hs
/-- without a test -/
theorem e_lc0 [fx : Fx X sc N k] {scope : Scope} {α : Type} {enc : α → PyData} {xs : List α} {g : α → PyData} (n : Nat) (hi : DI X ρ (.Name x p1) e (fun ds => ds = xs.map enc)) (hN : N[n]? = some x)
    (he : ∀ s H C cl fp (y : α), Fx (Bk X s H scope C cl fp) (relS scope sc) N k → y ∈ xs → DE (Bk X s H scope C cl fp) ((ρ.set n .any).set n (.dat (enc y))) elt (g y))
    (ok : blkC N sc scope [(x, n)] = true := by decide +kernel) (hpl : plainAt ρ [n] = true := by rfl) (hl : tgB sc scope x = true := by decide +kernel) (hs : ∀ x, foldedSetIterable e X.env x = pure x := by intro _; rfl) :
    DE X ρ (.ListComp elt [⟨.Name x p1, e, [], 0⟩] scope pos) (.list (xs.map g)) :=
  DE.to (e_lc (f := fun _ => true) n hi hN (fun _ _ _ _ _ _ _ _ => ts_0) (fun s H C cl fp y fx' hy _ => he s H C cl fp y fx' hy) ok hpl hl hs) (by rw [List.filter_eq_self.mpr (by simp)])

theorem l_lc0 [fx : Fx X sc N k] {scope : Scope} {α : Type} {enc : α → PyData} {xs : List α} {g : α → PyData} (n : Nat) (hi : DI X ρ (.Name x p1) e (fun ds => ds = xs.map enc)) (hN : N[n]? = some x)
    (he : ∀ s H C cl fp (y : α), Fx (Bk X s H scope C cl fp) (relS scope sc) N k → y ∈ xs → DE (Bk X s H scope C cl fp) ((ρ.set n .any).set n (.dat (enc y))) elt (g y))
    (ok : blkC N sc scope [(x, n)] = true := by decide +kernel) (hpl : plainAt ρ [n] = true := by rfl) (hl : tgB sc scope x = true := by decide +kernel) :
    LcOk X ρ elt (.Name x p1) e [] scope (fun y => y = .list (xs.map g)) :=
  LcOk.imp (l_lc (f := fun _ => true) n hi hN (fun _ _ _ _ _ _ _ _ => ts_0) (fun s H C cl fp y fx' hy _ => he s H C cl fp y fx' hy) ok hpl hl) (fun d h => by rw [h, List.filter_eq_self.mpr (by simp)])

/-! ### statements -/
class Fl (X : Cx) : Prop where
  fn : ∀ x, X.fn x = true
def locB (sc : Scope) (x : Str) : Bool := match sc.names.lookup x with | some .local => true | some .cell => true | _ => false
theorem loc_of {sc : Scope} (e : X.env.scope = sc) (h : locB sc x = true) : L2.Loc X.env.scope x := by
  rw [e]
  unfold locB at h
  unfold L2.Loc
  split at h <;> first | exact .inl (by assumption) | exact .inr (by assumption) | cases h
theorem ex_s {α : Type} {q : α → Prop} {t : α → TS} {st : List Stmt} (h : ∀ y, q y → PSs X st (t y)) : PSs X st (fun D σ H => ∃ y, q y ∧ t y D σ H) := ⟨fun pins s σ H D I ⟨y, h1, h2⟩ => (h y h1).run pins s σ H D I h2⟩
theorem s_nil (h : P (.nx ρ)) : DS X ρ [] P := PSs.weak pss_nil fun D σ H ⟨F0, H0, F, g, r, k⟩ => k _ h σ F H g (Same.refl _) r
/-- what follows a statement that leaves the slots as ρ' -/
theorem s_asgP [fx : Fx X sc N k] [fl : Fl X] (n : Nat) (hN : N[n]? = some x) (he : DP X ρ e Pa) (hr : ∀ d, Pa d → DS X (ρ.set n (.dat d)) sts P) (hl : locB sc x = true := by decide +kernel) (hs : swapsWith e (some (.Name x p1)) pos.line X.env = pure false := by rfl) : DS X ρ (.Assign [.Name x p1] e pos :: sts) P := by
  refine PSs.weak (pss_cons (ps_set (i := n) (by rw [fx.hN]; exact fx.nd) (by rw [fx.hN]; exact hN) (loc_of fx.hsc hl) he hs (.inl (fl.fn _))) (ex_s hr)) fun D σ H ⟨F0, H0, F, g, r, q⟩ => ?_
  exact ⟨F0, H0, F, g, r, fun v d F1 H1 p1 g1 s1 r1 i1 => ⟨d, p1, F0, H0, F1, g1, r1.setD i1, fun o po => (q o po).mono s1⟩⟩
theorem s_asg [fx : Fx X sc N k] [fl : Fl X] (n : Nat) (hN : N[n]? = some x) (he : DE X ρ e d) (hr : DS X (ρ.set n (.dat d)) sts P) (hl : locB sc x = true := by decide +kernel) (hs : swapsWith e (some (.Name x p1)) pos.line X.env = pure false := by rfl) : DS X ρ (.Assign [.Name x p1] e pos :: sts) P :=
  s_asgP n hN he (fun d' h => by rw [h]; exact hr) hl hs
/-- x = [..], x a local -/
def swB (sc scope : Scope) (x : Str) : Bool := (match sc.names.lookup x with | some .local => true | _ => false) && !(scope.names.any fun (n, k) => n == x && (k == .local || k == .cell))
theorem s_lcP [fx : Fx X sc N k] [fl : Fl X] {scope : Scope} {ifs : List Expr} {lpos : Pos} (n : Nat) (hN : N[n]? = some x) (h : LcOk X ρ elt tg e ifs scope Pa) (hr : ∀ d, Pa d → DS X (ρ.set n (.dat d)) sts P) (hw : swB sc scope x = true := by decide +kernel) (hl : (p1.line == lpos.line) = true := by rfl) (hs : ∀ x, foldedSetIterable e X.env x = pure x := by intro _; rfl) :
    DS X ρ (.Assign [.Name x p1] (.ListComp elt [⟨tg, e, ifs, 0⟩] scope lpos) pos :: sts) P := by
  obtain ⟨own, wi, g, tt, te, h1, h2, h3, h4, h5, h6⟩ := h.ex
  unfold swB at hw
  rw [Bool.and_eq_true] at hw
  have hlo : X.env.scope.names.lookup x = some .local := by
    rw [fx.hsc]
    have := hw.1
    split at this <;> first | assumption | cases this
  refine PSs.weak (pss_cons (ps_setLc (i := n) fx.calm (by rw [fx.hN]; exact fx.nd) (by rw [fx.hN]; exact hN) hlo (sw_true fx.kind hlo hl (by simpa using hw.2)) h1 h2 h3 h4 h5 hs) (ex_s hr)) fun D σ H ⟨F0, H0, F, g, r, q⟩ => ?_
  exact h6 σ H (fun x H1 => gName n x σ H1 (fun σ H => ∃ y, Pa y ∧ tS (ρ.set n (Sl.dat y)) P D σ H)) ⟨F0, H0, F, g, r, fun v d F1 H1 p1 g1 s1 r1 i1 => ⟨d, p1, F0, H0, F1, g1, r1.setD i1, fun o po => (q o po).mono s1⟩⟩
theorem s_lc [fx : Fx X sc N k] [fl : Fl X] {scope : Scope} {ifs : List Expr} {lpos : Pos} (n : Nat) (hN : N[n]? = some x) (h : LcOk X ρ elt tg e ifs scope (fun y => y = d)) (hr : DS X (ρ.set n (.dat d)) sts P) (hw : swB sc scope x = true := by decide +kernel) (hl : (p1.line == lpos.line) = true := by rfl) (hs : ∀ x, foldedSetIterable e X.env x = pure x := by intro _; rfl) :
    DS X ρ (.Assign [.Name x p1] (.ListComp elt [⟨tg, e, ifs, 0⟩] scope lpos) pos :: sts) P :=
  s_lcP n hN h (fun d' h => by rw [h]; exact hr) hw hl hs
/-- x = [..], x a cell -/
def swC (sc : Scope) (x : Str) : Bool := match sc.names.lookup x with | some .cell => true | _ => false
theorem s_lcC [fx : Fx X sc N k] [fl : Fl X] {gs : List Comprehension} {scope : Scope} {lpos : Pos} (n : Nat) (hN : N[n]? = some x) (h : DE X ρ (.ListComp elt gs scope lpos) d) (hr : DS X (ρ.set n (.dat d)) sts P) (hw : swC sc x = true := by decide +kernel) :
    DS X ρ (.Assign [.Name x p1] (.ListComp elt gs scope lpos) pos :: sts) P := by
  have hk : X.env.scope.names.lookup x = some .cell := by
    rw [fx.hsc]
    unfold swC at hw
    split at hw <;> first | assumption | cases hw
  refine s_asg n hN h hr (by unfold locB; rw [show sc.names.lookup x = some .cell by rw [← fx.hsc]; exact hk]) ?_
  have ky : X.env.kindOf x = some .cell := hk
  unfold swapsWith
  simp only [ky]
  have hz : (some NameKind.cell == some NameKind.local) = false := by decide
  simp only [hz, Bool.and_false, Bool.false_and]
theorem s_retP (he : DP X ρ e Pa) (hP : ∀ d, Pa d → P (.rt d ρ)) : DS X ρ (.Return (some e) pos :: sts) P :=
  PSs.weak (pss_cons (ps_ret he) pss_false) fun D σ H ⟨F0, H0, F, g, r, q⟩ => ⟨F0, H0, F, g, r, fun v d F1 H1 p1 g1 s1 r1 i1 => q _ (hP d p1) v σ F1 H1 g1 s1 r1 i1⟩
theorem s_ret (he : DE X ρ e d) (hP : P (.rt d ρ)) : DS X ρ (.Return (some e) pos :: sts) P := s_retP he fun d' h => by rw [h]; exact hP
def Rt (P : Out → Prop) : Out → Prop
  | .rt d ρ => P (.rt d ρ)
  | .ro P' ρ => P (.ro P' ρ)
  | .nx _ => False
/-- if c: A (B may be empty), then the rest -/
theorem s_if {Qc : Bool → Prop} {Pm : Out → Prop} (hc : DQ X ρ c Qc) (ha : Qc true → DS X ρ body Pm) (hb : Qc false → DS X ρ els Pm) (hn : ∀ ρ', Pm (.nx ρ') → DS X ρ' sts P) (hr : ∀ d ρ', Pm (.rt d ρ') → P (.rt d ρ')) (ho : ∀ P' ρ', Pm (.ro P' ρ') → P (.ro P' ρ') := by exact fun _ _ h => h) : DS X ρ (.If c body els pos :: sts) P := by
  have one : ∀ {st : List Stmt} {q : Prop}, (q → DS X ρ st Pm) → PSs X st (fun D σ H => q ∧ tS ρ Pm D σ H) := fun {st q} h => ⟨fun pins s σ H D I w => (h w.1).run pins s σ H D I w.2⟩
  refine PSs.weak (pss_cons (ps_if hc (one ha) (one hb)) (ex_s (q := fun ρ' => Pm (.nx ρ')) (t := fun ρ' => tS ρ' P) hn)) fun D σ H ⟨F0, H0, F, g, r, q⟩ => ⟨F0, H0, F, g, r, fun bb F1 H1 p1 g1 s1 r1 => ?_⟩
  have cont : ∀ o, Pm o → Cont F0 H0 F1 { D with nx := fun σ H => ∃ ρ', Pm (.nx ρ') ∧ tS ρ' P D σ H } o := fun o po => by
    cases o with
    | nx ρ' => exact fun σ' F2 H2 g2 s2 r2 => ⟨ρ', po, F0, H0, F2, g2, r2, fun o2 p2 => (q o2 p2).mono (s1.trans s2)⟩
    | rt d ρ' => exact fun v σ' F2 H2 g2 s2 r2 i2 => (q _ (hr d ρ' po)) v σ' F2 H2 g2 (s1.trans s2) r2 i2
    | ro P' ρ' => exact fun p σ' F2 H2 g2 s2 r2 i2 => (q _ (ho P' ρ' po)) p σ' F2 H2 g2 (s1.trans s2) r2 i2
  cases bb with
  | true => exact iteT ⟨p1, F0, H0, F1, g1, r1, cont⟩
  | false => exact iteF ⟨p1, F0, H0, F1, g1, r1, cont⟩
/-- if c: .. return -/
theorem s_ifR {bb : Bool} (hc : DT X ρ c bb) (ha : bb = true → DS X ρ body (Rt P)) (hb : bb = false → DS X ρ sts P) : DS X ρ (.If c body [] pos :: sts) P :=
  s_if (Pm := fun o => match o with | .nx ρ' => ρ' = ρ ∧ bb = false | .rt d ρ' => P (.rt d ρ') | .ro P' ρ' => P (.ro P' ρ')) hc (fun h => DS.imp (ha h.symm) fun o ho => by cases o with | nx _ => exact ho.elim | rt d ρ' => exact ho | ro P' ρ' => exact ho) (fun h => s_nil ⟨rfl, h.symm⟩) (fun ρ' h => by rw [h.1]; exact hb h.2) (fun d ρ' h => h)
/-- both ways end -/
theorem s_ifRP {Qc : Bool → Prop} (hc : DQ X ρ c Qc) (ha : Qc true → DS X ρ body (Rt P)) (hb : Qc false → DS X ρ sts P) : DS X ρ (.If c body [] pos :: sts) P :=
  s_if (Pm := fun o => match o with | .nx ρ' => ρ' = ρ ∧ Qc false | .rt d ρ' => P (.rt d ρ') | .ro P' ρ' => P (.ro P' ρ')) hc (fun h => DS.imp (ha h) fun o ho => by cases o with | nx _ => exact ho.elim | rt d ρ' => exact ho | ro P' ρ' => exact ho) (fun h => s_nil ⟨rfl, h⟩) (fun ρ' h => by rw [h.1]; exact hb h.2) (fun d ρ' h => h)
/-- for x in ..: body -/
theorem s_forN [fx : Fx X sc N k] [fl : Fl X] {Pl : List PyData → Prop} (n : Nat) (hN : N[n]? = some x) (hi : DI X ρ (.Name x p1) e Pl) (Iv : List PyData → Nat → List Sl → Prop) (h0 : ∀ ds, Pl ds → Iv ds 0 ρ)
    (hb : ∀ ds m d ρ', Pl ds → ds[m]? = some d → Iv ds m ρ' → DS X (ρ'.set n (.dat d)) body (fun o => match o with | .nx ρ2 => Iv ds (m + 1) ρ2 | .rt y ρ2 => P (.rt y ρ2) | .ro _ _ => False))
    (hn : ∀ ds ρ', Pl ds → Iv ds ds.length ρ' → DS X ρ' sts P) (hl : locB sc x = true := by decide +kernel) (hs : ∀ x, foldedSetIterable e X.env x = pure x := by intro _; rfl) : DS X ρ (.For (.Name x p1) e body [] pos :: sts) P := by
  let tb : TS := fun D σ H => ∃ ds m d ρ', Pl ds ∧ ds[m]? = some d ∧ Iv ds m ρ' ∧ tS (ρ'.set n (.dat d)) (fun o => match o with | .nx ρ2 => Iv ds (m + 1) ρ2 | .rt y ρ2 => P (.rt y ρ2) | .ro _ _ => False) D σ H
  have htb : PSs X body tb := ⟨fun pins s σ H D I ⟨ds, m, d, ρ', q1, q2, q3, q4⟩ => (hb ds m d ρ' q1 q2 q3).run pins s σ H D I q4⟩
  have hg : PG X (.Name x p1) (gName n) := pg_name (by rw [fx.hN]; exact fx.nd) (by rw [fx.hN]; exact hN) (loc_of fx.hsc hl) (.inl (fl.fn _))
  have hxe : PassesOwn (model X.prog X.w) X.A X.env X.xe := by rw [fx.xe]; exact PassesOwn.never
  refine PSs.weak (pss_cons (ps_for hxe fx.calm hi hg htb hs) (ex_s (q := fun y : List PyData × List Sl => Pl y.1 ∧ Iv y.1 y.1.length y.2) (t := fun y => tS y.2 P) fun y hy => hn y.1 y.2 hy.1 hy.2)) fun D σ H ⟨F0, H0, F, g, r, q⟩ => ⟨F0, H0, F, g, r, fun J ds F1 H1 pl g1 s1 r1 wk hz => ?_⟩
  refine ⟨fun m z σ' H' => z = ds.length - m ∧ m ≤ ds.length ∧ ∃ F' ρ', Gw F0 H0 F' H' ∧ Same F1 F' ∧ Rep H0 ρ' σ' F' H' ∧ Iv ds m ρ', ⟨ds.length, by omega, Nat.zero_le _, F1, ρ, g1, Same.refl _, r1, h0 ds pl⟩, ?_⟩
  rintro m z σ' H' ⟨rfl, hm, F', ρ', g2, s2, r2, iv⟩
  obtain ⟨w1, w2⟩ := wk F' H' s2 g2.fh m hm
  by_cases hlt : m < ds.length
  · obtain ⟨go, yld⟩ := w1 hlt
    refine .inr ⟨go, fun σ3 H3 => ∃ F' ρ', Gw F0 H0 F' H3 ∧ Same F1 F' ∧ Rep H0 ρ' σ3 F' H3 ∧ Iv ds (m + 1) ρ', fun σ3 H3 q3 => ⟨ds.length - (m + 1), by omega, rfl, hlt, q3⟩, fun y H3 hy => ?_⟩
    obtain ⟨F3, d, g3, hd, i3⟩ := yld y H3 hy
    refine ⟨ds, m, d, ρ', pl, hd, iv, F0, H0, F3, g2.trans g3, (r2.mono g3).setD i3, fun o po => ?_⟩
    cases o with
    | nx ρ2 => exact fun σ4 F4 H4 g4 s4 r4 => ⟨F4, ρ2, g4, s2.trans (g3.ff.trans s4), r4, po⟩
    | rt y ρ2 => exact fun v σ4 F4 H4 g4 s4 r4 i4 => q _ po v σ4 F4 H4 g4 (s1.trans (s2.trans (g3.ff.trans s4))) r4 i4
    | ro P' ρ2 => exact po.elim
  · have e : m = ds.length := by omega
    subst e
    exact .inl ⟨w2 rfl, (ds, ρ'), ⟨pl, iv⟩, F0, H0, F', g2, r2, fun o po => (q o po).mono (s1.trans s2)⟩
/-- a, b, .. = t -/
def setAll (ρ : List Sl) (n : Nat) : List PyData → List Sl
  | [] => ρ
  | d :: ds => setAll (ρ.set n (.dat d)) (n + 1) ds
/-- expression statements whose value is dropped -/
theorem s_drop (he : DP X ρ e Pa) (hr : DS X ρ sts P) (hs : swapsWith e none pos.line X.env = pure false := by rfl) : DS X ρ (.Expr e pos :: sts) P :=
  PSs.weak (pss_cons (ps_expr he hs) hr) fun D σ H ⟨F0, H0, F, g, r, q⟩ => ⟨F0, H0, F, g, r, fun v d F1 H1 p1 g1 s1 r1 i1 => ⟨F0, H0, F1, g1, r1, fun o po => (q o po).mono s1⟩⟩

/-! ### a def keeps its promise -/
/-- how a body is to end -/
def EndK (as : List Sl) (R : PyData → Prop) : Out → Prop
  | .rt d ρ => R d ∧ ∀ s ∈ as, (∃ d, s = .dat d) ∨ s ∈ ρ
  | .nx ρ => R .none ∧ ∀ s ∈ as, (∃ d, s = .dat d) ∨ s ∈ ρ
  | .ro _ _ => False
structure Ctx (P : Program) (w : World) (K : PySem.W.Frag) (mg : Str → Option Value) (base : Heap) (X : Cx) : Prop where
  p : X.prog = P
  w : X.w = w
  K : X.K = K
  mg : X.mg = mg
  base : X.base = base
theorem Has.at {P : Program} {w : World} {K : PySem.W.Frag} {mg : Str → Option Value} {base : Heap} {x : Str} {k : Nat} {sp : Sp} (h : Has P w K mg base x k sp) (c : Ctx P w K mg base X) : Hs X x k sp := by
  obtain ⟨rfl, rfl, rfl, rfl, rfl⟩ := c
  exact h
/-- where the def x of the text stands -/
structure At (K : PySem.W.Frag) (mg : Str → Option Value) (x : Str) (st : Stmt) : Prop where
  ex : ∃ (f : Addr) (fd : FuncData), mg x = some (.ref f) ∧ Fun K x x st f fd
theorem rep_start {H0 F H : Hp} {as : List Sl} {vs : List V} {N : List Str} (ha : ArOk H0 F H vs as) (hap : Apart as) : Rep H0 (as ++ List.replicate (N.length - as.length) .any) (L2.start N vs) F H := by
  have hl : vs.length = as.length := Paired.length ha
  have get : ∀ {vs : List V} {as : List Sl}, ArOk H0 F H vs as → ∀ (i : Nat) (s : Sl), as[i]? = some s → ∃ v, vs[i]? = some v ∧ SlOk H0 F H (some v) s := by
    intro vs as h
    induction h with
    | nil => intro i s e; simp at e
    | @cons v s' vs' as' q _ ih =>
      intro i s e
      cases i with
      | zero => simp at e; subst e; exact ⟨v, rfl, q⟩
      | succ i => obtain ⟨u, h1, h2⟩ := ih i s (by simpa using e); exact ⟨u, by simpa using h1, h2⟩
  have cut : ∀ (i : Nat) (s : Sl), (as ++ List.replicate (N.length - as.length) Sl.any)[i]? = some s → as[i]? = some s ∨ (s = .any ∧ as.length ≤ i ∧ i - as.length < N.length - as.length) := fun i s e => by
    by_cases hi : i < as.length
    · rw [List.getElem?_append_left hi] at e; exact .inl e
    · rw [List.getElem?_append_right (by omega), List.getElem?_replicate] at e
      split at e
      · cases e; exact .inr ⟨rfl, by omega, by assumption⟩
      · cases e
  refine ⟨?_, fun i s e => ?_, fun i j s t A e1 e2 a1 a2 => ?_⟩
  · unfold L2.start
    rw [List.length_append, List.length_append, List.length_replicate, List.length_replicate, List.length_map, hl]
  · rcases cut i s e with q | ⟨rfl, h1, h2⟩
    · obtain ⟨v, q1, q2⟩ := get ha i s q
      have hi : i < vs.length := (List.getElem?_eq_some_iff.mp q1).1
      refine ⟨some v, ?_, q2⟩
      unfold L2.start
      rw [List.getElem?_append_left (by rw [List.length_map]; exact hi), List.getElem?_map, q1]
      rfl
    · refine ⟨none, ?_, trivial⟩
      unfold L2.start
      rw [List.getElem?_append_right (by rw [List.length_map]; omega), List.length_map, List.getElem?_replicate, if_pos (by omega)]
  · rcases cut i s e1 with q1 | ⟨rfl, _⟩
    · rcases cut j t e2 with q2 | ⟨rfl, _⟩
      · exact hap i j s t A q1 q2 a1 a2
      · cases a2
    · cases a1
theorem has_of {P : Program} {w : World} {K : PySem.W.Frag} {mg : Str → Option Value} {base : Heap} {x : Str} {st : Stmt} {N ps : List Str} {k : Nat} {T : Type} {ar : T → List Sl} {pre : T → Prop} {R : T → PyData → Prop} (hf : At K mg x st) (S : FnScope N ps (defScope st)) (hbn : ∀ x ∈ BN, mg x = none)
    (hb : ∀ (kV doc pm : Value) (an : Option Addr) (cdv ct : Value) (us : List Value), us.length = ps.length → bindArgs (PySem.W.fnOf x x (defArgs st) (defBody st) (defScope st) .none kV doc pm an cdv ct) ⟨us, []⟩ = pure (ps.zip us)) (hl : ∀ t, (ar t).length = ps.length)
    (body : ∀ X : Cx, Ctx P w K mg base X → Fx X (defScope st) N k → Fl X → ∀ t, pre t → DS X (ar t ++ List.replicate (N.length - (ar t).length) .any) (defBody st) (EndK (ar t) (R t))) : Has P w K mg base x (k + 1) (spK ar pre R) := by
  obtain ⟨f, fd, hm, F⟩ := hf.ex
  refine ⟨f, fd, ps, hm, F.kp, F.binds hb, F.ok S (fun vs H Q E h => ?_) (fun cdv A outer s H vs Q E hr h => ?_)⟩
  · obtain ⟨t, F0, H0, F', hp, g, ha, _⟩ := h
    rw [← hl t]
    exact Paired.length ha
  · obtain ⟨t, F0, H0, F', hp, g, ha, hap, q⟩ := h
    have fx : Fx (cxOf CX0 P w K mg base N x (defScope st) f cdv A outer s H E).nox (defScope st) N k := ⟨rfl, S.nd, rfl, S.kind, rfl, hr, hbn, rfl⟩
    have fl : Fl (cxOf CX0 P w K mg base N x (defScope st) f cdv A outer s H E).nox := ⟨fun _ => rfl⟩
    refine ⟨_, body _ ⟨rfl, rfl, rfl, rfl, rfl⟩ fx fl t hp, F0, H0, F', g, rep_start ha hap, fun o ho => ?_⟩
    have mutR : ∀ {ρ : List Sl} {σ : St} {F2 H2 : Hp}, Rep H0 ρ σ F2 H2 → (∀ s ∈ ar t, (∃ d, s = .dat d) ∨ s ∈ ρ) → ∀ s ∈ ar t, MutOk H0 F2 H2 s := fun {ρ σ F2 H2} r2 h s hs => by
      rcases h s hs with ⟨d, rfl⟩ | hm
      · trivial
      · obtain ⟨n, hn, en⟩ := List.getElem_of_mem hm
        exact SlOk.rep r2 (by rw [List.getElem?_eq_getElem hn, en])
    cases o with
    | nx ρ' => exact fun σ' F2 H2 g2 s2 r2 => q .non .none F2 H2 ho.1 g2 s2 (mutR r2 ho.2) is_non
    | rt d ρ' => exact fun v σ' F2 H2 g2 s2 r2 i2 => q v d F2 H2 ho.1 g2 s2 (mutR r2 ho.2) i2
    | ro P' ρ' => exact ho.elim
/-- the end of a def of data alone -/
theorem end_d {ds : List PyData} {R : PyData → Prop} {d : PyData} {ρ' : List Sl} (h : R d) : EndK (ds.map .dat) R (.rt d ρ') := ⟨h, fun s hs => by obtain ⟨y, _, rfl⟩ := List.mem_map.mp hs; exact .inl ⟨y, rfl⟩⟩
end
end Rb
/-! Rb, part f: comparisons as tests, chains, own lists -/
namespace Rb
open PySem PySem.Spec L2
section
variable {X : Cx} {ρ : List Sl} {sc : Scope} {N : List Str} {k : Nat} {a b c e : Expr} {rest : List Expr} {sts : List Stmt} {pos p p1 : Pos} {P Pa Pb : PyData → Prop} {d da db : PyData} {i j : Int} {ds es : List PyData} {ns ms : List Int} {x : Str} {s t : Bool} {z y : Str} {ss : List Str}
theorem DQ.cmp {op : CmpOp} {r : R2} {Pq : Bool → Prop} (ho : OpR X (compareOp op) r) (ha : DP X ρ a Pa) (hb : DP X ρ b Pb) (hr : Step2 r Pa Pb (fun d => ∃ b, d = .bool b ∧ Pq b)) (hm : behindInMarks op b = false) : DQ X ρ (.Compare a [op] [b] pos) Pq :=
  PT.weak (pt_cmpR ho ha hb hm) fun σ H Q ⟨F0, H0, F, g, r, q⟩ => tOp_of (P := fun d => ∃ b, d = .bool b ∧ Pq b) hr σ H _ ⟨F0, H0, F, g, r, fun v d F1 H1 p1 g1 s1 r1 i1 => by
    obtain ⟨b, rfl, pb⟩ := p1
    exact ⟨b, i1.bl_inv, q b F1 H1 pb g1 s1 r1⟩⟩
theorem Step2.bq {r : R2} {bb : Bool} (h : Step2 r Pa Pb (fun x => x = .bool bb)) : Step2 r Pa Pb (fun d => ∃ b, d = .bool b ∧ b = bb) := fun F H x y da db Q s i1 i2 pa pb q => h F H x y da db Q s i1 i2 pa pb fun v d F' H' hd => q v d F' H' ⟨bb, hd, rfl⟩
theorem t_lt (ha : DE X ρ a (.int i)) (hb : DE X ρ b (.int j)) : DT X ρ (.Compare a [.Lt] [b] pos) (decide (i < j)) := DQ.cmp op_lt ha hb (s2_int (f := fun i j => .bool (decide (i < j))) fun _ _ _ => is_bl).bq (nomark _)
theorem t_le (ha : DE X ρ a (.int i)) (hb : DE X ρ b (.int j)) : DT X ρ (.Compare a [.LtE] [b] pos) (decide (i ≤ j)) := DQ.cmp op_le ha hb (s2_int (f := fun i j => .bool (decide (i ≤ j))) fun _ _ _ => is_bl).bq (nomark _)
theorem t_gt (ha : DE X ρ a (.int i)) (hb : DE X ρ b (.int j)) : DT X ρ (.Compare a [.Gt] [b] pos) (decide (j < i)) := DQ.cmp op_gt ha hb (s2_int (f := fun i j => .bool (decide (j < i))) fun _ _ _ => is_bl).bq (nomark _)
theorem t_ge (ha : DE X ρ a (.int i)) (hb : DE X ρ b (.int j)) : DT X ρ (.Compare a [.GtE] [b] pos) (decide (j ≤ i)) := DQ.cmp op_ge ha hb (s2_int (f := fun i j => .bool (decide (j ≤ i))) fun _ _ _ => is_bl).bq (nomark _)
theorem t_eq (ha : DE X ρ a (.int i)) (hb : DE X ρ b (.int j)) : DT X ρ (.Compare a [.Eq] [b] pos) (decide (i = j)) := DQ.cmp op_eq ha hb (s2_eq (fun _ _ h => h.int_inv) (fun _ _ h => h.int_inv) rfl dec_i).bq (nomark _)
theorem t_ne (ha : DE X ρ a (.int i)) (hb : DE X ρ b (.int j)) : DT X ρ (.Compare a [.NotEq] [b] pos) (!decide (i = j)) := DQ.cmp op_ne ha hb (s2_ne (fun _ _ h => h.int_inv) (fun _ _ h => h.int_inv) rfl dec_i).bq (nomark _)
theorem t_eqB (ha : DE X ρ a (.bool s)) (hb : DE X ρ b (.bool t)) : DT X ρ (.Compare a [.Eq] [b] pos) (decide (s = t)) := DQ.cmp op_eq ha hb (s2_eq (fun _ _ h => h.bl_inv) (fun _ _ h => h.bl_inv) rfl dec_b).bq (nomark _)
theorem t_neB (ha : DE X ρ a (.bool s)) (hb : DE X ρ b (.bool t)) : DT X ρ (.Compare a [.NotEq] [b] pos) (!decide (s = t)) := DQ.cmp op_ne ha hb (s2_ne (fun _ _ h => h.bl_inv) (fun _ _ h => h.bl_inv) rfl dec_b).bq (nomark _)
theorem t_eqS (ha : DE X ρ a (.str z)) (hb : DE X ρ b (.str y)) : DT X ρ (.Compare a [.Eq] [b] pos) (decide (z = y)) := DQ.cmp op_eq ha hb (s2_eq (fun _ _ h => h.str_inv) (fun _ _ h => h.str_inv) rfl dec_s).bq (nomark _)
theorem t_inT (ha : DE X ρ a (.int i)) (hb : DE X ρ b (.tuple (ns.map .int))) (hm : behindInMarks .In b = false := by rfl) : DT X ρ (.Compare a [.In] [b] pos) (decide (i ∈ ns)) := DQ.cmp op_in_seq ha hb (s2_inT false).bq hm
theorem t_niT (ha : DE X ρ a (.int i)) (hb : DE X ρ b (.tuple (ns.map .int))) (hm : behindInMarks .NotIn b = false := by rfl) : DT X ρ (.Compare a [.NotIn] [b] pos) (!decide (i ∈ ns)) := DQ.cmp op_notIn_seq ha hb (s2_inT true).bq hm
theorem t_inL (ha : DE X ρ a (.int i)) (hb : DE X ρ b (.list (ns.map .int))) (hm : behindInMarks .In b = false := by rfl) : DT X ρ (.Compare a [.In] [b] pos) (decide (i ∈ ns)) := DQ.cmp op_in_seq ha hb (s2_inL false).bq hm
theorem t_niL (ha : DE X ρ a (.int i)) (hb : DE X ρ b (.list (ns.map .int))) (hm : behindInMarks .NotIn b = false := by rfl) : DT X ρ (.Compare a [.NotIn] [b] pos) (!decide (i ∈ ns)) := DQ.cmp op_notIn_seq ha hb (s2_inL true).bq hm
theorem t_inS (ha : DE X ρ a (.str z)) (hb : DE X ρ b (.tuple (ss.map .str))) (hm : behindInMarks .In b = false := by rfl) : DT X ρ (.Compare a [.In] [b] pos) (decide (z ∈ ss)) := DQ.cmp op_in_seq ha hb (s2_inS false).bq hm
theorem t_isN {n : Nat} {q : Pos} (ha : DE X ρ a d) : DT X ρ (.Compare a [.Is] [.Constant .none n q] pos) (isNo d) := DQ.cmp op_isN ha e_non (by
  intro F H x y da db Q s i1 i2 pa pb q
  subst pa; subst pb
  refine ⟨i2.non_inv, q _ _ F H ⟨isNo da, rfl, rfl⟩ (Gw.refl s) ?_⟩
  have e : decide (x = V.non) = isNo da := by cases i1.1 <;> simp [isNo]
  rw [e]
  exact is_bl) (nomark _)
theorem t_notN {n : Nat} {q : Pos} (ha : DE X ρ a d) : DT X ρ (.Compare a [.IsNot] [.Constant .none n q] pos) (!isNo d) := DQ.cmp op_notN ha e_non (by
  intro F H x y da db Q s i1 i2 pa pb q
  subst pa; subst pb
  refine ⟨i2.non_inv, q _ _ F H ⟨!isNo da, rfl, rfl⟩ (Gw.refl s) ?_⟩
  have e : (!decide (x = V.non)) = !isNo da := by cases i1.1 <;> simp [isNo]
  rw [e]
  exact is_bl) (nomark _)
/-- comparisons whose left side is drawn -/
theorem q_eqP {Pi : Int → Prop} {Pq : Bool → Prop} (ha : DP X ρ a (fun d => ∃ i, d = .int i ∧ Pi i)) (hb : DE X ρ b (.int j)) (h : ∀ i, Pi i → Pq (decide (i = j))) : DQ X ρ (.Compare a [.Eq] [b] pos) Pq := DQ.cmp op_eq ha hb (by
  intro F H x y da db Q s i1 i2 pa pb q
  obtain ⟨i, rfl, pi⟩ := pa
  subst pb
  rw [i1.int_inv, i2.int_inv]
  exact ⟨rfl, q _ _ F H ⟨decide (i = j), rfl, h i pi⟩ (Gw.refl s) (by rw [dec_i]; exact is_bl)⟩) (nomark _)
theorem q_gtP {Pi : Int → Prop} {Pq : Bool → Prop} (ha : DP X ρ a (fun d => ∃ i, d = .int i ∧ Pi i)) (hb : DE X ρ b (.int j)) (h : ∀ i, Pi i → Pq (decide (j < i))) : DQ X ρ (.Compare a [.Gt] [b] pos) Pq := DQ.cmp op_gt ha hb (by
  intro F H x y da db Q s i1 i2 pa pb q
  obtain ⟨i, rfl, pi⟩ := pa
  subst pb
  rw [i1.int_inv, i2.int_inv]
  exact ⟨i, j, rfl, rfl, q _ _ F H ⟨decide (j < i), rfl, h i pi⟩ (Gw.refl s) is_bl⟩) (nomark _)
/-- a < b <= c -/
theorem t_ltle {l : Int} (ha : DE X ρ a (.int i)) (hb : DE X ρ b (.int j)) (hc : DE X ρ c (.int l)) (hm : lastMarks [.Lt, .LtE] [b, c] = false := by rfl) : DT X ρ (.Compare a [.Lt, .LtE] [b, c] pos) (decide (i < j) && decide (j ≤ l)) := by
  refine PT.weak (pt_chain op_lt op_le ha hb hc hm) fun σ H Q ⟨F0, H0, F, g, r, q⟩ => ⟨F0, H0, F, g, r, fun v1 d1 F1 H1 p1 g1 s1 r1 i1 => ⟨F0, H0, F1, g1, r1, fun v2 d2 F2 H2 p2 g2 s2 r2 i2 => ?_⟩⟩
  subst p1; subst p2
  refine ⟨i, j, i1.int_inv, i2.int_inv, decide (i < j), rfl, ?_⟩
  by_cases h : i < j
  · have e : decide (i < j) = true := decide_eq_true h
    rw [e]
    rw [e, Bool.true_and] at q
    refine iteT ⟨F0, H0, F2, g2, r2, fun v3 d3 F3 H3 p3 g3 s3 r3 i3 => ?_⟩
    subst p3
    exact ⟨j, l, i2.int_inv, i3.int_inv, decide (j ≤ l), rfl, q _ F3 H3 rfl g3 (s1.trans (s2.trans s3)) r3⟩
  · have e : decide (i < j) = false := decide_eq_false h
    rw [e]
    rw [e, Bool.false_and] at q
    exact iteF ⟨false, rfl, q false F2 H2 rfl g2 (s1.trans s2) r2⟩

/-! ### own lists -/
variable {A : Addr} {Po : List PyData → Prop} {Pt : Out → Prop}
theorem own_adr {H0 F H : Hp} {σ : St} (r : Rep H0 ρ σ F H) {n : Nat} (h : ρ[n]? = some (.own A Po)) : σ[n]? = some (some (.ref A)) ∧ H0 A = none ∧ F A = none ∧ ∃ vs ds, H A = some (.lst vs) ∧ DqA F vs ds ∧ (∀ d ∈ ds, Sz d) ∧ vs.length ≤ sizeLine ∧ Po ds := by
  obtain ⟨x, q1, rfl, q2⟩ := r.ok n _ h
  exact ⟨q1, q2⟩
/-- own[i] -/
theorem e_ixO [fx : Fx X sc N k] (n : Nat) (hN : N[n]? = some x) (hρ : ρ[n]? = some (.own A (fun y => y = ds))) (hb : DE X ρ b (.int i)) (e : atI ds i = some d) (hv : visB sc x = true := by decide +kernel) (hs : PlainIx b := by exact fun _ _ => rfl) : DE X ρ (.Subscript (.Name x p) b pos) d := by
  obtain ⟨h1, h2, h3⟩ := vis_of (X := X) fx.hsc hv
  refine PE.weak (pe_ix ix_list (pe_var (i := n) (by rw [fx.hN]; exact hN) h1 h2 h3) hb hs) fun σ H Q ⟨F0, H0, F, g, r, q⟩ => ⟨_, (own_adr r hρ).1, F0, H0, F, g, r, fun v da F1 H1 p1 g1 s1 r1 i1 => ?_⟩
  subst p1
  obtain ⟨_, _, _, vs, ds', z1, z2, z3, _, rfl⟩ := own_adr r1 hρ
  obtain ⟨w, e1, e2⟩ := atI_dq z2 e
  exact ⟨A, vs, i, w, rfl, i1.int_inv, SqL.of z1, e1, q _ _ F1 H1 rfl g1 s1 r1 ⟨e2, z3 _ (atI_mem e)⟩⟩
theorem e_lenO [fx : Fx X sc N k] (n : Nat) (hN : N[n]? = some x) (hρ : ρ[n]? = some (.own A (fun y => y = ds))) (hv : visB sc x = true := by decide +kernel) (hg : glB sc "len" = true := by decide +kernel) : DE X ρ (.Call (.Name "len" p) [.Name x p1] [] pos) (.int ds.length) := by
  obtain ⟨h1, h2, h3⟩ := vis_of (X := X) fx.hsc hv
  refine PE.weak (pe_callB call_len_seq (gl_of fx.hsc hg).1 (fx.bn _ bn_len) boot_len (pa_cons (pe_var (i := n) (by rw [fx.hN]; exact hN) h1 h2 h3) pa_nil)) fun σ H Q ⟨F0, H0, F, g, r, q⟩ => ⟨_, (own_adr r hρ).1, ?_⟩
  obtain ⟨_, _, _, vs, ds', z1, z2, z3, _, rfl⟩ := own_adr r hρ
  refine ⟨A, vs, rfl, .inl (SqL.of z1), ?_⟩
  rw [dqA_len z2]
  exact q _ _ F H rfl g (Same.refl _) r is_int
theorem e_tupO [fx : Fx X sc N k] (n : Nat) (hN : N[n]? = some x) (hρ : ρ[n]? = some (.own A (fun y => y = ds))) (hv : visB sc x = true := by decide +kernel) (hg : glB sc "tuple" = true := by decide +kernel) : DE X ρ (.Call (.Name "tuple" p) [.Name x p1] [] pos) (.tuple ds) := by
  obtain ⟨h1, h2, h3⟩ := vis_of (X := X) fx.hsc hv
  refine PE.weak (pe_callTy call_tupleF (gl_of fx.hsc hg).1 (fx.bn _ bn_tuple) (by decide +kernel) (pa_cons (pe_var (i := n) (by rw [fx.hN]; exact hN) h1 h2 h3) pa_nil)) fun σ H Q ⟨F0, H0, F, g, r, q⟩ => ⟨_, (own_adr r hρ).1, ?_⟩
  obtain ⟨_, _, _, vs, ds', z1, z2, z3, z4, rfl⟩ := own_adr r hρ
  exact ⟨A, vs, rfl, SqL.of z1, new_tup g.fh z2 (by rw [← dqA_len z2]; exact z4) z3 fun v d' F' H' hd gw is => q v d' F' H' hd (g.trans gw) gw.ff (r.mono gw) is⟩
/-- x = [], a list that will grow -/
theorem s_new [fx : Fx X sc N k] [fl : Fl X] {p2 : Pos} (n : Nat) (hN : N[n]? = some x) (hr : ∀ A, DS X (ρ.set n (.own A (fun y => y = []))) sts Pt) (hl : locB sc x = true := by decide +kernel) : DS X ρ (.Assign [.Name x p1] (.List [] p2) pos :: sts) Pt := by
  refine PSs.weak (pss_cons (ps_set (i := n) (by rw [fx.hN]; exact fx.nd) (by rw [fx.hN]; exact hN) (loc_of fx.hsc hl) (pe_lst pa_nil) rfl (.inl (fl.fn _))) (ex_s (q := fun _ : Addr => True) (t := fun A => tS (ρ.set n (.own A (fun y => y = []))) Pt) fun A _ => hr A)) fun D σ H ⟨F0, H0, F, g, r, q⟩ => ?_
  refine ⟨Nat.zero_le _, fun l hl => ⟨l, trivial, F0, H0, F, g.trans (Gw.new g.fh hl), (r.mono (Gw.new g.fh hl)).set ⟨rfl, g.hh.free hl, g.fh.free hl, [], [], upd_same, .nil, (fun _ h => by cases h), Nat.zero_le _, rfl⟩ (fun a ea m t em et => ?_), fun o po => q o po⟩⟩
  cases ea
  have hm := r.ok m t em
  obtain ⟨x, _, q2⟩ := hm
  obtain ⟨_, _, o, ho, _⟩ := mut_adr q2.mut et
  rw [hl] at ho
  cases ho
/-- x.append(e) -/
theorem s_appP [fx : Fx X sc N k] {p2 p3 : Pos} (n : Nat) (hN : N[n]? = some x) (hρ : ρ[n]? = some (.own A (fun y => y = ds))) (he : DP X ρ e Pa) (hz : ds.length < sizeLine) (hr : ∀ d, Pa d → DS X (ρ.set n (.own A (fun y => y = ds ++ [d]))) sts Pt) (hv : visB sc x = true := by decide +kernel)
    (hline : (p2.endLine == p3.line) = true := by rfl) (hfew : ((backTo p3 (starEach [e] X.env)).all (fun x => !x.1) && (backToKw p3 (keywordEach [] X.env)).all (fun x => x.1.isSome) && decide ([e].length + ([] : List Keyword).length + (if ([] : List Keyword).isEmpty then 0 else 1) < 30)) = true := by rfl)
    (hse : starEach [e] X.env = [(false, eval e X.env)] := by rfl) (hsw : swapsWith (.Call (.Attribute (.Name x p1) "append" p2) [e] [] p3) none pos.line X.env = pure false := by rfl) :
    DS X ρ (.Expr (.Call (.Attribute (.Name x p1) "append" p2) [e] [] p3) pos :: sts) Pt := by
  obtain ⟨h1, h2, h3⟩ := vis_of (X := X) fx.hsc hv
  refine PSs.weak (pss_cons (ps_expr (pe_bm F.plainAttrs_list F.slot_list_append F.type_list_append mt_append (pe_var (i := n) (by rw [fx.hN]; exact hN) h1 h2 h3) (pa_cons he pa_nil hse) rfl hfew hline hse rfl) hsw) (ex_s (q := Pa) (t := fun d => tS (ρ.set n (.own A (fun y => y = ds ++ [d]))) Pt) hr)) fun D σ H ⟨F0, H0, F, g, r, q⟩ => ?_
  obtain ⟨w1, _, _, vs0, ds0, y1, _⟩ := own_adr r hρ
  refine ⟨_, w1, .inl ⟨rfl, _, SqL.of y1⟩, F0, H0, F, g, r, fun v d F1 H1 p1 g1 s1 r1 i1 => ?_⟩
  obtain ⟨w2, z0, z1, vs, ds', z2, z3, z4, z5, rfl⟩ := own_adr r1 hρ
  have hlen := dqA_len z3
  refine ⟨A, vs, v, rfl, rfl, z2, by omega, d, p1, F0, H0, F1, g1.put z0 z1, ?_, fun o po => (q o po).mono s1⟩
  have hdist : ∀ (m : Nat) (t : Sl), ρ[m]? = some t → t.adr = some A → m = n := fun m t em et => r1.ap m n t _ A em hρ et rfl
  -- the other slots stand
  refine ⟨by rw [List.length_set]; exact r1.len, fun m t em => ?_, fun m1 m2 t1 t2 a e1 e2 a1 a2 => ?_⟩
  · rw [List.getElem?_set] at em
    split at em
    · rename_i hm
      subst hm
      split at em
      · cases em
        exact ⟨_, w2, rfl, z0, z1, vs ++ [v], ds' ++ [d], upd_same, dqA_app z3 (.cons i1.1 .nil), fun y hy => (by
          rcases List.mem_append.mp hy with hy | hy
          · exact z4 y hy
          · rw [List.mem_singleton.mp hy]; exact i1.2), by rw [List.length_append, List.length_singleton]; omega, rfl⟩
      · cases em
    · rename_i hm
      obtain ⟨x', q1, q2⟩ := r1.ok m t em
      refine ⟨x', q1, ?_⟩
      cases t with
      | any => trivial
      | dat d => exact q2
      | own b P =>
        obtain ⟨e1, y1, y2, us, es, y3, y4⟩ := q2
        exact ⟨e1, y1, y2, us, es, by rw [upd_ne (fun h => hm (hdist m _ em (by rw [h]; rfl)).symm)]; exact y3, y4⟩
      | dct b kvs =>
        obtain ⟨e1, y1, y2, y3⟩ := q2
        exact ⟨e1, y1, y2, by rw [upd_ne (fun h => hm (hdist m _ em (by rw [h]; rfl)).symm)]; exact y3⟩
      | obj b C fs =>
        obtain ⟨e1, dx, us, y1, y2⟩ := q2
        exact ⟨e1, dx, us, by rw [upd_ne (fun h => by rw [h, z2] at y1; cases y1)]; exact y1, y2⟩
  · have back : ∀ (m : Nat) (t : Sl), (ρ.set n (.own A (fun y => y = ds' ++ [d])))[m]? = some t → t.adr = some a → ∃ t', ρ[m]? = some t' ∧ t'.adr = some a := fun m t em at_ => by
      rw [List.getElem?_set] at em
      split at em
      · rename_i hm
        subst hm
        split at em
        · cases em
          exact ⟨_, hρ, at_⟩
        · cases em
      · exact ⟨t, em, at_⟩
    obtain ⟨t1', b1, c1⟩ := back m1 t1 e1 a1
    obtain ⟨t2', b2, c2⟩ := back m2 t2 e2 a2
    exact r1.ap m1 m2 t1' t2' a b1 b2 c1 c2
theorem s_app [fx : Fx X sc N k] {p2 p3 : Pos} (n : Nat) (hN : N[n]? = some x) (hρ : ρ[n]? = some (.own A (fun y => y = ds))) (he : DE X ρ e d) (hz : ds.length < sizeLine) (hr : DS X (ρ.set n (.own A (fun y => y = ds ++ [d]))) sts Pt) (hv : visB sc x = true := by decide +kernel)
    (hline : (p2.endLine == p3.line) = true := by rfl) (hfew : ((backTo p3 (starEach [e] X.env)).all (fun x => !x.1) && (backToKw p3 (keywordEach [] X.env)).all (fun x => x.1.isSome) && decide ([e].length + ([] : List Keyword).length + (if ([] : List Keyword).isEmpty then 0 else 1) < 30)) = true := by rfl)
    (hse : starEach [e] X.env = [(false, eval e X.env)] := by rfl) (hsw : swapsWith (.Call (.Attribute (.Name x p1) "append" p2) [e] [] p3) none pos.line X.env = pure false := by rfl) :
    DS X ρ (.Expr (.Call (.Attribute (.Name x p1) "append" p2) [e] [] p3) pos :: sts) Pt :=
  s_appP n hN hρ he hz (fun d' h => by rw [h]; exact hr) hv hline hfew hse hsw
/-- an own list that changes no more is data -/
theorem s_frz (n : Nat) (hρ : ρ[n]? = some (.own A (fun y => y = ds))) (h : DS X (ρ.set n (.dat (.list ds))) sts Pt) : DS X ρ sts Pt :=
  PSs.weak h fun D σ H ⟨F0, H0, F, g, r, q⟩ => by
    obtain ⟨w1, z0, z1, vs, ds', z2, z3, z4, z5, rfl⟩ := own_adr r hρ
    have sF : Same F (upd F A (.lst vs)) := same_new z1
    have gF : Gw F0 H0 (upd F A (.lst vs)) H := ⟨g.hh, g.ff.trans sF, fun b u e => by
      by_cases hb : b = A
      · rw [hb, upd_same] at e; rw [hb, z2]; exact e
      · rw [upd_ne hb] at e; exact g.fh _ _ e, fun b u e => by
      by_cases hb : b = A
      · exact .inr (by rw [hb]; exact z0)
      · rw [upd_ne hb] at e; exact g.nw _ _ e⟩
    refine ⟨F0, H0, upd F A (.lst vs), gF, ⟨by rw [List.length_set]; exact r.len, fun m t em => ?_, fun m1 m2 t1 t2 a e1 e2 a1 a2 => ?_⟩, fun o po => (q o po).mono sF⟩
    · rw [List.getElem?_set] at em
      split at em
      · rename_i hm
        subst hm
        split at em
        · cases em
          exact ⟨_, w1, .ref A, rfl, .lst upd_same (dqA_mono sF _ _ z3), sz_list.mpr ⟨by rw [← dqA_len z3]; exact z5, z4⟩⟩
        · cases em
      · rename_i hm
        obtain ⟨x', q1, q2⟩ := r.ok m t em
        refine ⟨x', q1, ?_⟩
        have hne : ∀ b, t.adr = some b → b ≠ A := fun b hb h => hm (r.ap m n t _ A em hρ (by rw [hb, h]) rfl).symm
        cases t with
        | any => trivial
        | dat d => obtain ⟨v, e1, e2⟩ := q2; exact ⟨v, e1, e2.mono sF⟩
        | own b P =>
          obtain ⟨e1, y1, y2, us, es, y3, y4, y5⟩ := q2
          exact ⟨e1, y1, by rw [upd_ne (hne b rfl)]; exact y2, us, es, y3, dqA_mono sF _ _ y4, y5⟩
        | dct b kvs =>
          obtain ⟨e1, y1, y2, y3⟩ := q2
          exact ⟨e1, y1, by rw [upd_ne (hne b rfl)]; exact y2, y3⟩
        | obj b C fs =>
          obtain ⟨e1, dx, us, y1, y2⟩ := q2
          exact ⟨e1, dx, us, y1, fun f d e => (y2 f d e).mono sF⟩
    · rw [List.getElem?_set] at e1 e2
      split at e1
      · split at e1
        · cases e1; cases a1
        · cases e1
      · split at e2
        · split at e2
          · cases e2; cases a2
          · cases e2
        · exact r.ap m1 m2 t1 t2 a e1 e2 a1 a2
/-- what an own list holds is given a name; said less -/
theorem s_open (n : Nat) (hρ : ρ[n]? = some (.own A Po)) (h : ∀ ds, Po ds → DS X (ρ.set n (.own A (fun y => y = ds))) sts Pt) : DS X ρ sts Pt := by
  have key : PSs X sts (fun D σ H => ∃ ds, Po ds ∧ tS (ρ.set n (.own A (fun y => y = ds))) Pt D σ H) := ex_s h
  refine PSs.weak key fun D σ H ⟨F0, H0, F, g, r, q⟩ => ?_
  obtain ⟨w1, z0, z1, vs, ds, z2, z3, z4, z5, z6⟩ := own_adr r hρ
  refine ⟨ds, z6, F0, H0, F, g, ⟨by rw [List.length_set]; exact r.len, fun m t em => ?_, fun m1 m2 t1 t2 a e1 e2 a1 a2 => ?_⟩, q⟩
  · rw [List.getElem?_set] at em
    split at em
    · rename_i hm
      subst hm
      split at em
      · cases em
        exact ⟨_, w1, rfl, z0, z1, vs, ds, z2, z3, z4, z5, rfl⟩
      · cases em
    · exact r.ok m t em
  · have back : ∀ (m : Nat) (t : Sl), (ρ.set n (.own A (fun y => y = ds)))[m]? = some t → t.adr = some a → ∃ t', ρ[m]? = some t' ∧ t'.adr = some a := fun m t em at_ => by
      rw [List.getElem?_set] at em
      split at em
      · rename_i hm
        subst hm
        split at em
        · cases em
          exact ⟨_, hρ, at_⟩
        · cases em
      · exact ⟨t, em, at_⟩
    obtain ⟨t1', b1, c1⟩ := back m1 t1 e1 a1
    obtain ⟨t2', b2, c2⟩ := back m2 t2 e2 a2
    exact r.ap m1 m2 t1' t2' a b1 b2 c1 c2
theorem s_less (n : Nat) {Po' : List PyData → Prop} (hρ : ρ[n]? = some (.own A Po)) (hw : ∀ ds, Po ds → Po' ds) (h : DS X (ρ.set n (.own A Po')) sts Pt) : DS X ρ sts Pt := by
  refine PSs.weak h fun D σ H ⟨F0, H0, F, g, r, q⟩ => ?_
  obtain ⟨w1, z0, z1, vs, ds, z2, z3, z4, z5, z6⟩ := own_adr r hρ
  refine ⟨F0, H0, F, g, ⟨by rw [List.length_set]; exact r.len, fun m t em => ?_, fun m1 m2 t1 t2 a e1 e2 a1 a2 => ?_⟩, q⟩
  · rw [List.getElem?_set] at em
    split at em
    · rename_i hm
      subst hm
      split at em
      · cases em
        exact ⟨_, w1, rfl, z0, z1, vs, ds, z2, z3, z4, z5, hw ds z6⟩
      · cases em
    · exact r.ok m t em
  · have back : ∀ (m : Nat) (t : Sl), (ρ.set n (.own A Po'))[m]? = some t → t.adr = some a → ∃ t', ρ[m]? = some t' ∧ t'.adr = some a := fun m t em at_ => by
      rw [List.getElem?_set] at em
      split at em
      · rename_i hm
        subst hm
        split at em
        · cases em
          exact ⟨_, hρ, at_⟩
        · cases em
      · exact ⟨t, em, at_⟩
    obtain ⟨t1', b1, c1⟩ := back m1 t1 e1 a1
    obtain ⟨t2', b2, c2⟩ := back m2 t2 e2 a2
    exact r.ap m1 m2 t1' t2' a b1 b2 c1 c2
end
end Rb
/-! Rb, part s: sorted of tuples of ints of any lengths (the empty one too); of sets -/
namespace Rb
open PySem PySem.Spec PySem.SeqAt L2
open PyProof.Rows (SortKind general' oneType' tuples' keyKind' keyLt' oneLt' oneLt'_eq firstOfTuple' oneTypeOnly'_eq lexLt)

section
variable {prog : Program} {w : World} {A : Around} {E : Value → Shared → Prop} {s : Shared}
theorem call_tuple_lt {Q : Value → Shared → Prop} {l b : Addr} {items items2 : Array Value} {e r : Nat → Bool} (hl : s.heap.IsTuple l items) (hb : s.heap.IsTuple b items2)
    (he : ∀ j (h1 : j < items.size) (h2 : j < items2.size), EqAt A.in1 s items[j] items2[j] (e j)) (hr : ∀ j (h1 : j < items.size) (h2 : j < items2.size), e j = false → RcLt A.in1 s items[j] items2[j] (r j))
    (h : Q (.bool (firstLt e r (decide (items.size < items2.size)) (List.range (min items.size items2.size)))) s) : wpAny (model prog w) A (call (.builtin "tuple.__lt__") [.ref l, .ref b]) Q E s := by
  obtain ⟨⟨cls, dd, data, sl⟩, ho, hc, n, hd⟩ := id hl
  obtain ⟨⟨cls2, dd2, data2, sl2⟩, ho2, hc2, n2, hd2⟩ := id hb
  simp only at hc hd hc2 hd2
  subst hc hd hc2 hd2
  exact call_meets F.slot_tuple_lt ⟨_, ho, rfl⟩ F.entry_tuple_lt (F.args_tuple_lt_2 _ _) (tuple_ltAt l b items items2 n n2 dd dd2 sl sl2 e r) ⟨ho, ho2, he, hr, h⟩
/-- one tuple against another, whatever the sort's way -/
theorem oneLt_tuple {f : Bool} {xs ys : List PyData} {a b : Value} {as bs : List Addr} {Q : Bool → Shared → Prop} (ra : Reads s.heap a (.tuple xs) as) (rb : Reads s.heap b (.tuple ys) bs) (hal : PySem.W.alikeAll xs ys = true)
    (hu : A.units + min (PyData.depth (.tuple xs)) (PyData.depth (.tuple ys)) < cLine) (hq : Q (PySem.W.dataLt (.tuple xs) (.tuple ys)) s) : wpAny (model prog w) A (oneLt' f a b) Q E s := by
  cases f with
  | false => exact PySem.W.oneLt_alike (fun h => (by cases h)) ra rb (by simpa [PySem.W.alike] using hal) (by simp) hu hq
  | true =>
    cases ra with
    | @tuple l o vs n _ as₁ h1 h2 h3 h4 =>
      cases rb with
      | @tuple l' o' vs' n' _ bs₁ k1 k2 k3 k4 =>
        have n1 : vs.size = xs.length := by simpa using ReadsAll.length _ _ _ h4
        have n2 : vs'.size = ys.length := by simpa using ReadsAll.length _ _ _ k4
        rw [PySem.W.dataLt_tuple, ← PySem.W.firstLt_toks xs ys hal, ← n1, ← n2] at hq
        rw [oneLt'_eq]
        simp only [if_true]
        refine wpAny_bind (wpAny_cRoomFor (room_here hu) ?_)
        refine wpAny_bind (wpAny_callSpecialIfBound?_slot (T := "tuple") ⟨_, h1, h2⟩ F.slot_tuple_lt (call_tuple_lt (e := pairEq xs ys) (r := fun j => PySem.W.dataLt (xs.getD j .none) (ys.getD j .none)) ⟨_, h1, h2, _, h3⟩ ⟨_, k1, k2, _, k3⟩ (fun j j1 j2 => ?_) (fun j j1 j2 hj => ?_) ?_))
        · have := PySem.W.eqAt_alikeAll xs ys A.in1 s vs.toList vs'.toList _ _ h4 k4 hal (room_in hu) j (by simpa using j1) (by simpa using j2)
          simpa using this
        · have := PySem.W.rcLt_alikeAll xs ys A.in1 s vs.toList vs'.toList _ _ h4 k4 hal (room_in hu) j (by simpa using j1) (by simpa using j2) hj
          simpa using this
        · exact wpAny_truthy_bool hq
/-- the first items of tuples, where there are any -/
theorem firsts_o : ∀ (vs : List Value) (cs : List (List PyData)) {Q : List (Option Value) → Shared → Prop}, PySem.W.EachIs (fun v c => ∃ as, Reads s.heap v (.tuple c) as) vs cs →
    (∀ os : List (Option Value), PySem.W.EachIs (fun o c => o.isSome = !c.isEmpty) os cs → Q os s) → wpAny (model prog w) A (vs.mapM firstOfTuple') Q E s
  | _, _, _, .nil, h => by rw [List.mapM_nil]; exact wpAny_pure (h [] .nil)
  | v :: vs, c :: cs, Q, .cons ⟨as, r⟩ t, h => by
    cases r with
    | @tuple a o xs n _ _ ho hc hd hr =>
      rw [List.mapM_cons]
      refine wpAny_bind ?_
      rw [PySem.W.kas_first_eq]
      refine wpAny_bind (PySem.W.Looks.here (show PySem.W.Looks (model prog w) s.heap (typeOf (.ref a)) o.cls from (PySem.W.Looks.ld ho).andThen .now) ?_)
      rw [hc, if_neg (by first | decide | simp)]
      refine wpAny_bind (PyProof.Rows.listItems_at ho hd (wpAny_pure ?_))
      have hs : (xs[0]?).isSome = !c.isEmpty := by
        have hl := SeqAt.ReadsAll.length _ _ _ hr
        rw [← Array.getElem?_toList]
        cases q : xs.toList with
        | nil => rw [q] at hl; cases c with | nil => rfl | cons _ _ => cases hl
        | cons f fr => rw [q] at hl; cases c with | nil => cases hl | cons _ _ => rfl
      exact wpAny_bind (firsts_o vs cs (Q := fun bs s' => wpAny (model prog w) A (pure (xs[0]? :: bs)) Q E s') t fun os eo => wpAny_pure (h _ (.cons hs eo)))
theorem kind_o {vs : List Value} {cs : List (List PyData)} (e : PySem.W.EachIs (fun v c => ∃ as, Reads s.heap v (.tuple c) as) vs cs) (h2 : 2 ≤ vs.length) (hne : ∃ c ∈ cs, c = []) {Q : SortKind → Shared → Prop}
    (hq1 : (∀ c cs', cs = c :: cs' → c ≠ [] ) → Q general' s) (hq2 : Q oneType' s) : wpAny (model prog w) A (keyKind' vs.toArray) Q E s := by
  rw [PyProof.Rows.kat_kind_eq, List.mapM_toArray, map_eq_pure_bind]
  refine wpAny_bind (wpAny_bind (firsts_o vs cs e fun os eo => wpAny_pure ?_))
  have hall : ¬ ((os.toArray.all fun x => x.isSome) = true) := fun h => by
    obtain ⟨c, hc, rfl⟩ := hne
    obtain ⟨n, hn, en⟩ := List.getElem_of_mem hc
    have hl := eo.length
    have hn' : n < os.length := by omega
    have hz := PySem.W.EachIs.zip eo (os[n], cs[n]) (by
      refine List.mem_of_getElem (i := n) (h := by rw [List.length_zip]; omega) ?_
      rw [List.getElem_zip])
    dsimp only at hz
    rw [en] at hz
    have := Array.all_eq_true.mp h n (by simpa using hn')
    simp at this
    rw [hz] at this
    cases this
  rw [if_neg hall]
  cases os with
  | nil =>
    cases eo
    cases e
    exact absurd h2 (by simp)
  | cons o os =>
    have e0 : ((o :: os).toArray[0]?.bind id) = o := by simp
    rw [e0]
    cases cs with
    | nil => cases eo
    | cons c cs' =>
      have ho : o.isSome = !c.isEmpty := by cases eo; assumption
      by_cases hc : c = []
      · subst hc
        rw [ho]
        simp only [List.isEmpty_nil, Bool.not_true, Bool.false_eq_true, if_false]
        rw [oneTypeOnly'_eq, List.mapM_toArray, map_eq_pure_bind]
        refine wpAny_bind (wpAny_bind (wpAny_bind (PySem.W.kas_mapM (r := Value.type "tuple") _ (fun v hv Q' hq => ?_) (wpAny_pure ?_))))
        · obtain ⟨c, _, as, r⟩ := e.left v hv
          exact (PySem.W.looks_reads (M := model prog w) r).here hq
        · cases vs with
          | nil => exact absurd h2 (by simp)
          | cons v0 vs0 =>
            have hall2 : ((List.map (fun _ => Value.type "tuple") (v0 :: vs0)).toArray.all fun x => x == Value.type "tuple") = true := by
              simp only [List.all_toArray, List.all_map, List.all_eq_true]
              intro _ _
              exact beq_self_eq_true _
            have h0 : (List.map (fun _ => Value.type "tuple") (v0 :: vs0)).toArray[0]? = some (Value.type "tuple") := by simp
            rw [h0]
            simp only [hall2, if_true]
            exact wpAny_pure (wpAny_pure hq2)
      · have hs : o.isSome = true := by
          rw [ho]
          cases c with
          | nil => exact absurd rfl hc
          | cons _ _ => rfl
        rw [if_pos hs]
        exact wpAny_pure (hq1 fun c' cs'' q => by cases q; exact hc)
abbrev cD (c : List Int) : PyData := .tuple (c.map .int)
theorem cD_depth (c : List Int) : (cD c).depth = 1 := by
  show PyData.depth (.tuple (c.map .int)) = 1
  simp only [PyData.depth, dep_ints]
theorem cD_alike (c c' : List Int) : PySem.W.alike (cD c) (cD c') = true := by
  show PySem.W.alike (.tuple (c.map .int)) (.tuple (c'.map .int)) = true
  rw [PySem.W.alike]
  exact PySem.W.alike_ints c c'
theorem sortsAt_c {vs : List Value} {cs : List (List Int)} (e : PySem.W.EachIs (fun v d => ∃ as, Reads s.heap v d as) vs (cs.map cD)) (hu : A.units + 2 < cLine) : PySem.W.SortsAt prog w A s (PySem.W.dataKind s.heap (cs.map cD)) vs := by
  have hal : PySem.W.AllAlike (cs.map cD) := PySem.W.AllAlike.of cD_alike
  by_cases hne : ∃ c ∈ cs, c = []
  · have e2 : PySem.W.EachIs (fun v c => ∃ as, Reads s.heap v (.tuple c) as) vs (cs.map fun c => c.map .int) := by
      have key : ∀ {vs : List Value} {cs : List (List Int)}, PySem.W.EachIs (fun v d => ∃ as, Reads s.heap v d as) vs (cs.map cD) → PySem.W.EachIs (fun v c => ∃ as, Reads s.heap v (.tuple c) as) vs (cs.map fun c => c.map .int) := by
        intro vs cs
        induction cs generalizing vs with
        | nil =>
          intro e
          have e' : PySem.W.EachIs _ vs [] := e
          cases e'
          exact .nil
        | cons c cs ih =>
          intro e
          have e' : PySem.W.EachIs _ vs (cD c :: cs.map cD) := e
          cases e' with
          | cons h t => exact .cons h (ih t)
      exact key e
    have lt : ∀ (kd : SortKind) (f : Bool), (∀ x y, keyLt' kd x y = oneLt' f x y) → PyProof.Rows.H.LtAt prog w A s (PySem.W.dataKind s.heap (cs.map cD)) kd := fun kd f hk => by
      intro E x y a b Q ha hb hq
      obtain ⟨d, as, hd, ra, rfl⟩ := PySem.W.dataKind_inv ha
      obtain ⟨d', as', hd', rb, rfl⟩ := PySem.W.dataKind_inv hb
      obtain ⟨c, _, rfl⟩ := List.mem_map.mp hd
      obtain ⟨c', _, rfl⟩ := List.mem_map.mp hd'
      rw [hk]
      refine oneLt_tuple ra rb (PySem.W.alike_ints c c') ?_ hq
      have h1 := cD_depth c
      have h2 := cD_depth c'
      unfold cD at h1 h2
      rw [h1, h2]
      show A.units + 1 < cLine
      omega
    refine ⟨fun v hv => ?_, ?_⟩
    · obtain ⟨d, hd, as, r⟩ := e.left v hv
      exact ⟨_, PySem.W.dataKind_some hal hd r⟩
    · by_cases hf : ∀ c cs', cs = c :: cs' → c ≠ []
      · -- the first one has items: the general way
        cases cs with
        | nil => obtain ⟨c, hc, _⟩ := hne; cases hc
        | cons c0 cs0 =>
          have hc0 := hf c0 cs0 rfl
          refine ⟨general', lt general' false (fun _ _ => rfl), fun h2 E Q hq => ?_⟩
          rw [PyProof.Rows.kat_kind_eq, List.mapM_toArray, map_eq_pure_bind]
          refine wpAny_bind (wpAny_bind (firsts_o vs _ e2 fun os eo => wpAny_pure ?_))
          have hall : ¬ ((os.toArray.all fun x => x.isSome) = true) := fun h => by
            obtain ⟨c, hc, rfl⟩ := hne
            obtain ⟨n, hn, en⟩ := List.getElem_of_mem hc
            have hl := eo.length
            rw [List.length_map] at hl
            have hn' : n < os.length := by omega
            have hz := PySem.W.EachIs.zip eo (os[n], ((c0 :: cs0).map fun c => c.map PyData.int)[n]'(by rw [List.length_map]; exact hn)) (by
              refine List.mem_of_getElem (i := n) (h := by rw [List.length_zip, List.length_map]; omega) ?_
              rw [List.getElem_zip])
            dsimp only at hz
            rw [List.getElem_map, en] at hz
            have := Array.all_eq_true.mp h n (by simpa using hn')
            simp at this
            rw [hz] at this
            cases this
          rw [if_neg hall]
          cases os with
          | nil => cases eo
          | cons o os =>
            have e0 : ((o :: os).toArray[0]?.bind id) = o := by simp
            rw [e0]
            have ho : o.isSome = !(c0.map PyData.int).isEmpty := by cases eo; assumption
            have hs : o.isSome = true := by
              rw [ho]
              cases c0 with
              | nil => exact absurd rfl hc0
              | cons _ _ => rfl
            rw [if_pos hs]
            exact wpAny_pure hq
      · refine ⟨oneType', lt oneType' true PyProof.Rows.keyLt'_oneType, fun h2 E Q hq => kind_o e2 h2 ?_ (fun h => ?_) hq⟩
        · obtain ⟨c, hc, rfl⟩ := hne
          exact ⟨[], List.mem_map.mpr ⟨[], hc, rfl⟩, rfl⟩
        · exact absurd (fun c cs' q => by
            rintro rfl
            exact h [] (cs'.map fun c => c.map .int) (by rw [q]; rfl) rfl) hf
  · refine PySem.W.SortsAt.data e hal (.inl fun d hd => ?_) fun d hd => ?_
    · obtain ⟨c, hc, rfl⟩ := List.mem_map.mp hd
      cases c with
      | nil => exact absurd ⟨[], hc, rfl⟩ hne
      | cons n ns => exact ⟨_, _, rfl⟩
    · obtain ⟨c, hc, rfl⟩ := List.mem_map.mp hd
      rw [cD_depth]
      omega
end
/-! ### the order -/
def leC (a b : List Int) : Bool := !decide (b < a)
def sortC (cs : List (List Int)) : List (List Int) := cs.mergeSort leC
theorem dataLe_c : PySem.W.dataLe false cD = leC := by
  funext a b
  have e := PySem.W.dataLe_eq (β := List Int) false cD
  rw [e]
  show (!PySem.W.dataLt (.tuple (b.map .int)) (.tuple (a.map .int))) = !decide (b < a)
  rw [PySem.W.dataLt_tuple]
  have := PySem.W.dataLt_ints b a
  unfold PySem.W.rowLt at this
  rw [this]
section
variable {X : Cx} {ρ : List Sl} {sc : Scope} {N : List Str} {k : Nat} {a : Expr} {pos p : Pos}
theorem vals_pick {R : V → List Int → Prop} : ∀ {out : List Value} {bs : List (List Int)}, PySem.W.EachIs (fun v c => ∃ x, RelV x v ∧ R x c) out bs → ∃ us : List V, Vals us out ∧ PySem.W.EachIs R us bs
  | _, _, .nil => ⟨[], .nil, .nil⟩
  | _, _, .cons ⟨x, r1, r2⟩ t => by
    obtain ⟨us, h1, h2⟩ := vals_pick t
    exact ⟨x :: us, .cons r1 h1, .cons r2 h2⟩
theorem each_dqA {F : Hp} : ∀ {us : List V} {bs : List (List Int)}, PySem.W.EachIs (fun x c => Dq F x (cD c)) us bs → DqA F us (bs.map cD)
  | _, _, .nil => .nil
  | _, _, .cons h t => .cons h (each_dqA t)
theorem dqA_each {F : Hp} : ∀ {us : List V} {bs : List (List Int)} {vs : List Value}, DqA F us (bs.map cD) → Vals us vs → PySem.W.EachIs (fun v c => ∃ x, RelV x v ∧ Dq F x (cD c)) vs bs
  | _, [], _, h, r => by
    have h' : DqA F _ [] := h
    cases h'
    cases r
    exact .nil
  | _, b :: bs, _, h, r => by
    have h' : DqA F _ (cD b :: bs.map cD) := h
    cases h' with
    | cons h1 h2 =>
      cases r with
      | cons r1 r2 => exact .cons ⟨_, r1, h1⟩ (dqA_each h2 r2)
def rSortC : List V → Hp → VK → Prop := fun vs H Q => ∃ (l : Addr) (us : List V) (cs : List (List Int)) (F : Hp), vs = [.ref l] ∧ Same F H ∧ H l = some (.lst us) ∧ DqA F us (cs.map cD) ∧
  ∀ us' p, DqA F us' ((sortC cs).map cD) → H p = none → Q (.ref p) (upd H p (.lst us'))
theorem reads_each {h : Heap} : ∀ {its : List Value} {cs : List (List Int)} {as : List Addr}, ReadsAll h its (cs.map cD) as → PySem.W.EachIs (fun v d => ∃ as, Reads h v d as) its (cs.map cD)
  | _, [], _, r => by
    have r' : ReadsAll h _ [] _ := r
    cases r'
    exact .nil
  | _, c :: cs, _, r => by
    have r' : ReadsAll h _ (cD c :: cs.map cD) _ := r
    cases r' with
    | cons h1 h2 => exact .cons ⟨_, h1⟩ (reads_each h2)
theorem cr_sortC (hu : X.A.units + 64 < cLine) : CallR X (.builtin "sorted") rSortC := by
  intro pins s σ H vs us0 Q I r h
  obtain ⟨l, us, cs, F, rfl, sF, hl, hd, q⟩ := h
  obtain ⟨its, rv, hpl, hz⟩ := I.list (SqL.of hl)
  rw [Vals.ref1 r]
  obtain ⟨as, hr⟩ := Dp.readsAll I (cs.map cD) us its (dqA_dp _ _ (dqA_mono sF _ _ hd)) rv
  have hlen : its.length = cs.length := by rw [← rv.length, dqA_len hd, List.length_map]
  have er := reads_each hr
  have er' : PySem.W.EachIs (fun v d => ∃ as, Reads (PySem.W.sortingHeap (PySem.W.copyHeap s.heap its) (s.heap.objs.size + 1) its) v d as) its (cs.map cD) := er.mono fun _ _ ⟨as, r⟩ => ⟨as, PyProof.Rows.Reads.keeps (fun _ _ => PySem.W.sorting_copy_old) r⟩
  have S := sortsAt_c (prog := X.prog) (w := X.w) (A := X.A.in1.in1) (s := { s with heap := PySem.W.sortingHeap (PySem.W.copyHeap s.heap its) (s.heap.objs.size + 1) its }) er' (by show X.A.units + 1 + 1 + 2 < cLine; omega)
  refine PySem.W.sorted_vals hpl.isList S (by rw [← rv.length]; exact hz) ?_
  have erc : PySem.W.EachIs (fun v c => ∃ as, Reads (PySem.W.sortingHeap (PySem.W.copyHeap s.heap its) (s.heap.objs.size + 1) its) v (cD c) as) its cs := PySem.W.readsAll_each cD (as := as) (PyProof.Rows.ReadsAll.keeps (fun _ _ => PySem.W.sorting_copy_old) hr)
  have eo := PySem.W.sortVals_data (enc := cD) false (dqA_each hd rv) erc (PySem.W.AllAlike.of cD_alike)
  rw [dataLe_c] at eo
  generalize PySem.W.sortVals (PySem.W.dataKind (PySem.W.sortingHeap (PySem.W.copyHeap s.heap its) (s.heap.objs.size + 1) its) (cs.map cD)) false its its = out at eo ⊢
  obtain ⟨us', hv, hd'⟩ := vals_pick eo
  have hd2 := each_dqA hd'
  obtain ⟨ep, he'⟩ := PyProof.Rows.sortedAll_at s.heap its out.toArray
  have hlen2 : us'.length ≤ sizeLine := by rw [dqA_len hd2, List.length_map, List.length_mergeSort, ← hlen, ← rv.length]; exact hz
  exact ⟨.ref _, upd H (s.heap.objs.size + 1) (.lst us'), I.laid (t' := s.toks) (fun _ _ => PyProof.Rows.sortedAll_old) (Nat.le_succ _) ⟨hlen2, out, ep, hv, he'⟩, rfl, q us' _ hd2 (I.hok.fresh (Nat.le_succ _))⟩
theorem sz_cD {cs : List (List Int)} (h : ∀ d ∈ cs.map cD, Sz d) {bs : List (List Int)} (hb : ∀ b ∈ bs, b ∈ cs) : ∀ d ∈ bs.map cD, Sz d := fun d hd => by
  obtain ⟨b, h1, rfl⟩ := List.mem_map.mp hd
  exact h _ (List.mem_map.mpr ⟨b, hb b h1, rfl⟩)
theorem sortC_perm (cs : List (List Int)) : (sortC cs).Perm cs := List.mergeSort_perm _ _
theorem e_sortC [fx : Fx X sc N k] {cs : List (List Int)} (ha : DE X ρ a (.list (cs.map cD))) (hg : glB sc "sorted" = true := by decide +kernel) (he : starEach [a] X.env = [(false, eval a X.env)] := by rfl) : DE X ρ (.Call (.Name "sorted" p) [a] [] pos) (.list ((sortC cs).map cD)) :=
  DP.callB (cr_sortC fx.room.units) ha (by
    intro F H x da Q s i1 pa q
    subst pa
    obtain ⟨l, us, rfl, h1, h2, h3, h4⟩ := i1.lst_inv
    refine ⟨l, us, cs, F, rfl, s, s _ _ h1, h2, fun us' l' hd hl => ?_⟩
    exact new_lst s hd (by rw [List.length_map] at *; rw [(sortC_perm cs).length_eq]; exact h3) (sz_cD h4 fun b hb => (sortC_perm cs).mem_iff.mp hb) q l' hl) bn_sorted (by decide +kernel) (by decide) (by decide) hg he
end
end Rb
/-! Rb, part t: sets of ints and of tuples of ints, made of a list and sorted -/
namespace Rb
open PySem PySem.Spec L2
/-- an empty set, as the model lays it -/
abbrev newSet (w : World) : Obj := { cls := .type "set", dict := none, data := .set #[] 0 (.fresh 0 0 (!w.params.followText "set-order")) }
section
variable {P : Program} {w : World} {A : Around} {E : Value → Shared → Prop} {s : Shared}
open PyProof.Rows in
set_option maxRecDepth 100000 in
set_option maxHeartbeats 3200000 in
theorem set_of_list {l : Addr} {items : Array Value} (ns : List Int) {Q : Value → Shared → Prop} (hh : A.handled = none) (hl : s.heap.IsList l items) (hit : IntsAre items.toList ns) (hb : ns.length + 1 < scanBound)
    (h : ∀ (h' : Heap) (tk c : Nat), SetR w h' s.heap.objs.size (fun j => decide (j ∈ ns)) c → c ≤ ns.length → (∀ b o, s.heap.get? b = some o → h'.get? b = some o) → Q (.ref s.heap.objs.size) { s with heap := h', toks := tk }) :
    wpAny (model P w) A (call (.type "set") [.ref l]) Q E s := by
  have hisz : items.size = ns.length := by
    have q := IntsAre.length hit
    rw [Array.length_toList] at q
    exact q
  obtain ⟨c, tl, hmro⟩ := F.called_set.mro
  have hmade := F.called_set.made
  have hsub := F.called_set.sub
  refine wpAny_call (codeAny_of_tree ?_)
  show wpAny _ _ (callAny (.type "set") _) _ _ _
  refine wpAny_pure ⟨Code.quiet_builtin _ (by decide +kernel), codeAny_builtin F.entry_type_call ?_⟩
  rw [Around.under_plain (weight_type_call_type "set" [.ref l] []) rfl]
  have h1 := F.called_set.notType
  have h2 := F.called_set.canCreate
  have hct := F.typeCall_set_1 (.ref l)
  repeat (any_goals (first | assumption | wp_step))

  refine codeAny_mono (code_set_led1 (.ref l) (E := E) (Q₁ := fun obj s₁ => obj = .ref s.heap.objs.size ∧ s₁ = { s with heap := s.heap.push (newSet w) }) ⟨rfl, rfl⟩) fun r s₁ hr => ?_
  cases r with
  | error e => exact hr
  | ok fl =>
    cases fl with
    | ret obj =>
      obtain ⟨rfl, rfl⟩ := hr
      have hS : (s.heap.push (newSet w)).get? s.heap.objs.size = some (newSet w) := Heap.get?_push_size _ rfl
      have hT : Shared.TypeIs { s with heap := s.heap.push (newSet w) } (.ref s.heap.objs.size) "set" := ⟨_, hS, rfl⟩
      have hli := F.called_set.init.lookup
      have hbi := F.called_set.init.bind (.ref s.heap.objs.size)
      repeat (any_goals (first | assumption | wp_step))

      refine codeAny_mono (codeAny_call_builtin (R := wants (fun r s₂ => r = .none ∧ ∃ h' tk c, s₂ = { s with heap := h', toks := tk } ∧ SetR w h' s.heap.objs.size (fun j => decide (j ∈ ns)) c ∧ c ≤ ns.length ∧
          (∀ b o, s.heap.get? b = some o → h'.get? b = some o)) E) F.called_set.init.plain F.entry_set_init (check_set_init_1 hT ?_)) fun r₂ s₂ hr₂ => ?_
      · obtain ⟨ol, hol, hcl, nl, hdl⟩ := hl
        obtain ⟨ocls, odict, odata, oslots⟩ := ol
        simp only at hcl hdl
        subst hcl; subst hdl
        have hol' : (s.heap.push (newSet w)).get? l = some { cls := .type "list", dict := odict, data := .seq items nl, slots := oslots } := Heap.get?_push_of_some _ hol
        have hsls := F.sub_list_set
        have hslf := F.sub_list_frozenset
        have hne : (Value.type "list" == Value.type "dict") = false := by decide
        have hl1 : (s.heap.push (newSet w)).IsList l items := ⟨_, hol', rfl, nl, rfl⟩
        unfold Builtin.«set.__init__» noKeywords Builtin.Frozenset.updateFrom
        generalize hPI : pyIter = PI
        wp_walk
        subst hPI

        refine wpAny_pyIter_list hl1 ?_
        refine wpAny_bind (wpAny_runValue ?_)
        have hlS : l < s.heap.objs.size := Heap.lt_size hol
        have hh3 : A.in1.in1.in1.handled = none := by simp [hh]
        have hz1 : (s.heap.push (newSet w)).objs.size = s.heap.objs.size + 1 := Heap.size_push ..
        have hneI : l ≠ (s.heap.push (newSet w)).objs.size := by
          rw [Heap.size_push]; exact Nat.ne_of_lt (Nat.lt_succ_of_lt hlS)
        have hSf : s.heap.objs.size ∉ [(s.heap.push (newSet w)).objs.size, l] := by
          rw [Heap.size_push]; simp only [List.mem_cons, List.mem_singleton, List.not_mem_nil, or_false, not_or]
          exact ⟨Nat.ne_of_lt (Nat.lt_succ_self _), Nat.ne_of_gt hlS⟩
        have hval : ∀ (i : Nat) (v : Value), items[i]? = some v → ∃ k t, ns[i]? = some k ∧ v = .int k t := fun i v hv => by
          have hi : i < ns.length := by rw [← hisz]; exact (Array.getElem?_eq_some_iff.mp hv).1
          obtain ⟨t, e⟩ := PyProof.Rows.IntsAre.int_at hit i v (by rw [Array.getElem?_toList]; exact hv)
          refine ⟨ns[i], t, List.getElem?_eq_getElem hi, ?_⟩
          rw [e, List.getD_eq_getElem?_getD, List.getElem?_eq_getElem hi] <;> rfl
        refine set_update_ints ((Walks.list hh3 _ l hneI items).toS) s.heap.objs.size
          hSf ns hisz hb hval (items.size - 0) 0 _ (by omega) (Nat.zero_le _)
          ⟨⟨_, Heap.get?_push_size _ rfl, rfl, rfl⟩, (hl1.push _)⟩ ?hS0 ?hR
        case hS0 =>
          have hget : ((s.heap.push (newSet w)).push { cls := .type "list_iterator", data := .fields #[.ref l, .int 0 0] }).get? s.heap.objs.size
              = some (newSet w) := Heap.get?_push_of_some _ hS
          exact ⟨0, Nat.le_refl 0, setR_new_at hget⟩
        case hR =>
          intro s' c' hm hc' hS'
          obtain ⟨h', g2, d', tk', os'⟩ := s'
          have eg : g2 = s.gens := hm.gens
          have ed : d' = s.drawn := hm.drawn
          have eo : os' = s.os := hm.os
          subst eg; subst ed; subst eo
          show wpAny _ _ _ _ _ _
          refine wpAny_pure ?_
          show wpAny _ _ (ret Value.none) _ _ _
          rw [hisz] at hc'
          refine wpAny_pure ⟨rfl, h', tk', c', rfl, hS', hc', fun b o e => ?_⟩
          have hb0 : b < s.heap.objs.size := Heap.lt_size e
          have hb1 : b ≠ s.heap.objs.size := Nat.ne_of_lt hb0
          have hb2 : b ≠ (s.heap.push (newSet w)).objs.size := by
            rw [Heap.size_push]; exact Nat.ne_of_lt (Nat.lt_succ_of_lt hb0)
          exact hm.heap b o (by simp only [List.mem_cons, List.mem_singleton, List.not_mem_nil, or_false, not_or]; exact ⟨hb1, hb2⟩) (Heap.get?_push_of_some _ (Heap.get?_push_of_some _ e))

      · cases r₂ with
        | error e => exact hr₂
        | ok fl₂ =>
          cases fl₂ with
          | ret r =>
            obtain ⟨rfl, h', tk, c', rfl, hS', hc', hk'⟩ := hr₂
            repeat (any_goals (first | assumption | wp_step))
            exact h _ _ _ hS' hc' hk'
          | _ => exact hr₂.elim
    | _ => exact hr.elim
end
end Rb
/-! Rb, part u: sorted(set(..)) as one list -/
namespace Rb
open PySem PySem.Spec L2
section
variable {P : Program} {w : World} {A : Around} {E : Value → Shared → Prop} {s : Shared}
theorem call_sort_c {a : Addr} {vs : List Value} {cs : List (List Int)} {R : Value → List Int → Prop} {n : Nat} {Q : Value → Shared → Prop} (ho : s.heap.get? a = some (PyProof.Rows.seqObj "list" vs.toArray n)) (e : PySem.W.EachIs R vs cs)
    (er : PySem.W.EachIs (fun v c => ∃ as, Reads s.heap v (cD c) as ∧ a ∉ as) vs cs) (hL : vs.length ≤ sizeLine) (hu : A.units + 10 < cLine) (h : ∀ out : List Value, PySem.W.EachIs R out (sortC cs) → Q .none { s with heap := PyProof.Rows.sortedHeap s.heap a vs out.toArray }) :
    wpAny (model P w) A (call (.builtin "list.sort") [.ref a]) Q E s := by
  have hal : PySem.W.AllAlike (cs.map cD) := PySem.W.AllAlike.of cD_alike
  have er' : PySem.W.EachIs (fun v c => ∃ as, Reads (PySem.W.sortingHeap s.heap a vs) v (cD c) as) vs cs := PySem.W.each_keepBut (enc := cD) (h' := PySem.W.sortingHeap s.heap a vs) (fun _ _ hb q => PySem.W.sortingHeap_old hb q) (fun o q => by rw [ho] at q; rw [← Option.some.inj q]) hal er
  have er2 : PySem.W.EachIs (fun v d => ∃ as, Reads (PySem.W.sortingHeap s.heap a vs) v d as) vs (cs.map cD) := PySem.W.each_map (R := fun v d => ∃ as, Reads (PySem.W.sortingHeap s.heap a vs) v d as) cD er'
  have S := sortsAt_c (prog := P) (w := w) (A := A.in1) (s := { s with heap := PySem.W.sortingHeap s.heap a vs }) er2 (by show A.units + 1 + 2 < cLine; omega)
  have eo := PySem.W.sortVals_data (enc := cD) false e er' hal
  rw [dataLe_c] at eo
  exact wpAny_call_entry PyProof.Rows.slot_list_sort ⟨_, ho, rfl⟩ PyProof.Rows.entry_list_sort (PySem.W.list_sort_vals ho S hL ⟨.none, rfl, h _ eo⟩) (PyProof.Rows.args_list_sort _)
/-- the values collected from a set of tuples: its rows in some order -/
theorem rows_order {L : List (Addr × List Int)} : ∀ {vs : List Value}, (∀ v ∈ vs, ∃ q ∈ L, v = Value.ref q.1) → ∃ L1 : List (Addr × List Int), vs = L1.map (fun q => Value.ref q.1) ∧ ∀ q ∈ L1, q ∈ L
  | [], _ => ⟨[], rfl, fun q hq => by cases hq⟩
  | v :: vs, h => by
    obtain ⟨q, hq, e⟩ := h v List.mem_cons_self
    obtain ⟨L1, e1, h1⟩ := rows_order (vs := vs) fun u hu => h u (List.mem_cons_of_mem _ hu)
    exact ⟨q :: L1, by rw [List.map_cons, e, e1], fun r hr => (List.mem_cons.mp hr).elim (fun z => by rw [z]; exact hq) (h1 r)⟩
theorem sorted_set_c {a : Addr} {L : List (Addr × List Int)} {es : Array (Int × Value)} {ep : Nat} {t : SetTable} {Q : Value → Shared → Prop} (R : SetTR P w s.heap a L es ep t) (hh : A.handled = none) (hu : A.units + 20 < cLine)
    (hQ : ∀ s' p (out : List Value) (c : Nat) (L1 : List (Addr × List Int)), (∀ b o, s.heap.get? b = some o → s'.heap.get? b = some o) → s'.gens = s.gens → s'.os = s.os → s.heap.objs.size ≤ p →
      s'.heap.get? p = some (PyProof.Rows.seqObj "list" out.toArray c) → L1.Perm L → PySem.W.EachIs (fun v c => ∃ q ∈ L, v = Value.ref q.1 ∧ c = q.2) out (sortC (L1.map (·.2))) → Q (.ref p) s') :
    wpAny (model P w) A (call (.builtin "sorted") [.ref a]) Q E s := by
  obtain ⟨o, ho, hex, hd⟩ := R.ob
  have hsz := R.size
  have hfew := R.few
  refine Calls.call_function_entry PyProof.Rows.kind_sorted PyProof.Rows.plain_sorted PyProof.Rows.entry_sorted (PyProof.Rows.args_sorted1 _) ?_
  unfold Builtin.«sorted»
  refine wpAny_bind (m := checkCount "sorted" 1 1 _) (wpAny_pure ?_)
  refine wpAny_bind (collect_set (A := A.in1) hh ⟨o, ho, hex.1, hd⟩ R.fits (by unfold scanBound; omega) R.tab.ris R.led fun s1 vs k1 hz g1 o1 pm => ?_)
  have hes : es.toList.map (·.2) = L.map fun q => Value.ref q.1 := by
    rw [R.rows]
    unfold rowsOf
    rw [List.map_map] <;> rfl
  rw [hes] at pm
  obtain ⟨L1, hv1, hs1⟩ := rows_order (L := L) (vs := vs) fun v hv => by
    obtain ⟨q, hq, e⟩ := List.mem_map.mp (pm.mem_iff.mp hv)
    exact ⟨q, hq, e.symm⟩
  have one : ∀ q ∈ L, ∀ r ∈ L, q.1 = r.1 → q = r := fun q hq r hr e => by
    have a1 := R.tup q hq
    have a2 := R.tup r hr
    rw [e] at a1
    exact Prod.ext e (a1.inj a2)
  have pL : L1.Perm L := by
    have nL : L.Nodup := nodup_of_map R.nd
    have nref : (L.map fun q => Value.ref q.1).Nodup := List.pairwise_map.mpr (List.Pairwise.imp_of_mem (fun {q r} hq hr hne e => by
      injection e with e
      exact hne (one q hq r hr e)) nL)
    rw [hv1] at pm
    have n1 : L1.Nodup := nodup_of_map (pm.nodup_iff.mpr nref)
    refine (List.perm_ext_iff_of_nodup n1 nL).mpr fun q => ⟨hs1 q, fun hq => ?_⟩
    obtain ⟨r, hr, e⟩ := List.mem_map.mp (pm.mem_iff.mpr (List.mem_map.mpr ⟨q, hq, rfl⟩))
    injection e with e
    rw [← one r (hs1 r hr) q hq e]
    exact hr
  have hvl : vs.length < 64 := by rw [hv1, List.length_map, pL.length_eq]; exact hfew
  refine wpAny_bind (wpAny_newList ?_ (by rw [sizeLine_eq]; omega))
  have hoL : (s1.heap.push (PyProof.Rows.seqObj "list" vs.toArray 0)).get? s1.heap.objs.size = some (PyProof.Rows.seqObj "list" vs.toArray 0) := Heap.get?_push_size _ rfl
  have e1 : PySem.W.EachIs (fun v c => ∃ q ∈ L, v = Value.ref q.1 ∧ c = q.2) vs (L1.map (·.2)) := by
    rw [hv1]
    clear pm pL hv1 hvl hoL
    induction L1 with
    | nil => exact .nil
    | cons q L1 ih => exact .cons ⟨q, hs1 q List.mem_cons_self, rfl, rfl⟩ (ih fun r hr => hs1 r (List.mem_cons_of_mem _ hr))
  have e2 : PySem.W.EachIs (fun v c => ∃ as, Reads (s1.heap.push (PyProof.Rows.seqObj "list" vs.toArray 0)) v (cD c) as ∧ s1.heap.objs.size ∉ as) vs (L1.map (·.2)) := e1.mono fun v c ⟨q, hq, h1, h2⟩ => by
    subst h1; subst h2
    obtain ⟨o', items, n', ho', hc', hd', hi'⟩ := isT_keep (R.tup q hq) k1
    have hi := ints_of_items (P := P) (w := w) hi'
    have hra : ∀ {us : List Value} {ns : List Int}, PyProof.Rows.IntsAre us ns → ReadsAll (s1.heap.push (PyProof.Rows.seqObj "list" vs.toArray 0)) us (ns.map PyData.int) [] := fun {us ns} h => by
      induction h with
      | nil => exact .nil
      | cons n tk _ ih => exact .cons (as := []) (bs := []) (Reads.int n tk) ih
    refine ⟨_, Reads.tuple (Heap.get?_push_of_some _ ho') hc' hd' (hra hi), ?_⟩
    have : q.1 < s1.heap.objs.size := Heap.lt_size ho'
    simp
    try omega
  refine wpAny_bind (wpAny_holding (call_sort_c (s := { s1 with heap := s1.heap.push (PyProof.Rows.seqObj "list" vs.toArray 0) }) hoL e1 e2 (by rw [sizeLine_eq]; omega) (by show A.units + 1 + 10 < cLine; omega) fun out eo => ?_))
  obtain ⟨c, hc⟩ := PyProof.Rows.sortedHeap_at (vs := vs) (out := out.toArray) hoL
  refine wpAny_pure ⟨_, rfl, hQ _ s1.heap.objs.size out c L1 (fun b u e => ?_) g1 o1 hz hc pL eo⟩
  have q := k1 b u e
  have hlt := Heap.lt_size q
  show (PyProof.Rows.sortedHeap (s1.heap.push (PyProof.Rows.seqObj "list" vs.toArray 0)) s1.heap.objs.size vs out.toArray).get? b = some u
  rw [PyProof.Rows.sortedHeap_old (Nat.ne_of_lt hlt) (by rw [PyProof.Rows.size_push']; exact Nat.lt_succ_of_lt hlt)]
  exact Heap.get?_push_of_some _ q
end
/-! ### one list for one set -/
theorem leC_trans (a b c : List Int) (h1 : leC a b = true) (h2 : leC b c = true) : leC a c = true := by
  unfold leC at *
  simp only [Bool.not_eq_true', decide_eq_false_iff_not] at *
  exact List.le_trans (l₁ := a) (l₂ := b) (l₃ := c) h1 h2
theorem leC_total (a b : List Int) : (leC a b || leC b a) = true := by
  unfold leC
  rcases List.le_total a b with h | h
  · have : decide (b < a) = false := decide_eq_false h
    rw [this]; rfl
  · have : decide (a < b) = false := decide_eq_false h
    rw [this]; simp
theorem leC_anti {a b : List Int} (h1 : leC a b = true) (h2 : leC b a = true) : a = b := by
  unfold leC at *
  simp only [Bool.not_eq_true', decide_eq_false_iff_not] at *
  exact List.le_antisymm h1 h2
theorem sortC_pw (cs : List (List Int)) : (sortC cs).Pairwise (fun a b => leC a b = true) := List.pairwise_mergeSort leC_trans leC_total cs
theorem sortC_uniq {as bs : List (List Int)} (p : as.Perm bs) (h : as.Pairwise (fun a b => leC a b = true)) : as = sortC bs :=
  (p.trans (sortC_perm bs).symm).eq_of_pairwise (fun a b _ _ => leC_anti) h (sortC_pw bs)
theorem sortC_congr {as bs : List (List Int)} (p : as.Perm bs) : sortC as = sortC bs := sortC_uniq ((sortC_perm as).trans p) (sortC_pw as)
def ssC (cs : List (List Int)) : List (List Int) := sortC cs.eraseDups
def ssI (ns : List Int) : List Int := sortI ns.eraseDups
theorem nodup_dups {α : Type} [BEq α] [LawfulBEq α] : ∀ (n : Nat) (xs : List α), xs.length ≤ n → xs.eraseDups.Nodup := by
  intro n
  induction n with
  | zero => intro xs h; cases xs with | nil => simp | cons _ _ => simp at h
  | succ n ih =>
    intro xs h
    cases xs with
    | nil => simp
    | cons x xs =>
      rw [List.eraseDups_cons]
      refine List.nodup_cons.mpr ⟨fun hm => ?_, ih _ ?_⟩
      · have := List.mem_filter.mp (List.mem_eraseDups.mp hm)
        simp at this
      · have := List.length_filter_le (fun b => !b == x) xs
        rw [List.length_cons] at h
        omega
theorem eraseDups_nodup {α : Type} [BEq α] [LawfulBEq α] (xs : List α) : xs.eraseDups.Nodup := nodup_dups _ xs (Nat.le_refl _)
theorem ssC_eq {as cs : List (List Int)} (hn : as.Nodup) (hm : ∀ c, c ∈ as ↔ c ∈ cs) : sortC as = ssC cs :=
  sortC_congr ((List.perm_ext_iff_of_nodup hn (eraseDups_nodup cs)).mpr fun c => by rw [hm c, List.mem_eraseDups])
theorem ssI_eq {as ns : List Int} (hs : as.Pairwise (· < ·)) (hm : ∀ c, c ∈ as ↔ c ∈ ns) : as = ssI ns :=
  sortI_eq ((List.perm_ext_iff_of_nodup (hs.imp fun h => Int.ne_of_lt h) (eraseDups_nodup ns)).mpr fun c => by rw [hm c, List.mem_eraseDups]) (hs.imp fun h => Int.le_of_lt h)
theorem ssI_mem {ns : List Int} {i : Int} : i ∈ ssI ns ↔ i ∈ ns := by unfold ssI; rw [(sortI_perm _).mem_iff, List.mem_eraseDups]
theorem ssC_mem {cs : List (List Int)} {c : List Int} : c ∈ ssC cs ↔ c ∈ cs := by unfold ssC; rw [(sortC_perm _).mem_iff, List.mem_eraseDups]
theorem sortC_mem {cs : List (List Int)} {c : List Int} : c ∈ sortC cs ↔ c ∈ cs := (sortC_perm _).mem_iff
theorem sortI_mem {cs : List Int} {c : Int} : c ∈ sortI cs ↔ c ∈ cs := (sortI_perm _).mem_iff
theorem dups_len {α : Type} [BEq α] [LawfulBEq α] : ∀ (n : Nat) (xs : List α), xs.length ≤ n → xs.eraseDups.length ≤ xs.length := by
  intro n
  induction n with
  | zero => intro xs h; cases xs with | nil => simp | cons _ _ => simp at h
  | succ n ih =>
    intro xs h
    cases xs with
    | nil => simp
    | cons x xs =>
      rw [List.eraseDups_cons, List.length_cons, List.length_cons]
      have h1 := List.length_filter_le (fun b => !b == x) xs
      have h2 := ih (List.filter (fun b => !b == x) xs) (by rw [List.length_cons] at h; omega)
      omega
theorem ssC_len (cs : List (List Int)) : (ssC cs).length ≤ cs.length := by unfold ssC; rw [(sortC_perm _).length_eq]; exact dups_len _ cs (Nat.le_refl _)
theorem ssI_len (cs : List Int) : (ssI cs).length ≤ cs.length := by unfold ssI; rw [(sortI_perm _).length_eq]; exact dups_len _ cs (Nat.le_refl _)
section
variable {X : Cx} {ρ : List Sl} {sc : Scope} {N : List Str} {k : Nat} {a : Expr} {pos pos2 p p2 : Pos}
theorem setR_count {w : World} {h : Heap} {p : Addr} {ns : List Int} {c : Nat} (R : SetR w h p (fun j => decide (j ∈ ns)) c) : c = ns.eraseDups.length := by
  obtain ⟨o, es, ep, t, _, _, _, _, hn, hS, _, _, hc, _⟩ := R
  have hp : (es.toList.map keyOf).Perm ns.eraseDups := (List.perm_ext_iff_of_nodup hn (eraseDups_nodup ns)).mpr fun k => by rw [← hS k, List.mem_eraseDups]; simp
  rw [← hc, ← hp.length_eq, List.length_map, Array.length_toList]
/-- set(xs), ints -/
def rSetI (K : PySem.W.Frag) (w : World) : List V → Hp → VK → Prop := fun vs H Q => ∃ (l : Addr) (ns : List Int), vs = [V.ref l] ∧ SqL K H l (ns.map V.int) ∧ ns.length < 400 ∧
  ∀ p c, H p = none → c = ns.eraseDups.length → Q (.ref p) (upd H p (SetO w p (fun j => decide (j ∈ ns)) c))
theorem cr_setI (hc : X.calm = true) : CallR X (.type "set") (rSetI X.K X.w) := by
  intro pins s σ H vs us Q I r h
  obtain ⟨l, ns, rfl, hl, hz, q⟩ := h
  rw [Vals.ref1 r]
  obtain ⟨its, rv, pl, _⟩ := I.list hl
  have hn : H s.heap.objs.size = none := I.hok.fresh (Nat.le_refl _)
  refine set_of_list (P := X.prog) (w := X.w) ns (I.ok.hd hc) pl.isList (intsAre_of (by simpa using rv)) (by unfold scanBound; omega) fun h' tk c R hcl k => ?_
  exact ⟨.ref s.heap.objs.size, upd H s.heap.objs.size (SetO X.w s.heap.objs.size (fun j => decide (j ∈ ns)) c), I.laid (t' := tk) k (Nat.le_refl _) (setO_new R), rfl, q _ c hn (setR_count R)⟩
theorem e_ssI' [fx : Fx X sc N k] {ns : List Int} (ha : DE X ρ a (.list (ns.map .int))) (hz : ns.length < 400) (hd : ns.eraseDups.length < 64) (hg : glB sc "sorted" = true := by decide +kernel) (hg2 : glB sc "set" = true := by decide +kernel) (he : starEach [a] X.env = [(false, eval a X.env)] := by rfl) :
    DE X ρ (.Call (.Name "sorted" p) [.Call (.Name "set" p2) [a] [] pos2] [] pos) (.list ((ssI ns).map .int)) := by
  refine PE.weak (pe_callB (cr_sortedSet fx.calm) (gl_of fx.hsc hg).1 (fx.bn _ bn_sorted) (by decide +kernel) (pa_cons (pe_callTy (cr_setI fx.calm) (gl_of fx.hsc hg2).1 (fx.bn _ bn_set) (by decide +kernel) (pa_cons ha pa_nil he) (by decide) (by decide) he rfl) pa_nil)) fun σ H Q ⟨F0, H0, F, g, r, q⟩ => ⟨F0, H0, F, g, r, fun v d F1 H1 p1 g1 s1 r1 i1 => ?_⟩
  subst p1
  obtain ⟨l, us, rfl, h1, h2, h3, h4⟩ := i1.lst_inv
  have e := dqA_ints_inv h2
  subst e
  refine ⟨l, ns, rfl, SqL.of (g1.fh _ _ h1), hz, fun pp c hp hc => ⟨pp, _, c, rfl, upd_same, by rw [hc]; exact hd, fun ms qq hs hm hl hq => ?_⟩⟩
  have e : ms = ssI ns := ssI_eq hs fun k => by rw [hm k]; simp
  subst e
  have gw := Gw.new (o := SetO X.w pp (fun j => decide (j ∈ ns)) c) g1.fh hp
  have gw2 := Gw.dat (o := .lst ((ssI ns).map V.int)) gw.fh hq
  have gw3 := gw.trans gw2
  exact q _ _ _ _ rfl (g1.trans gw3) (s1.trans gw3.ff) (r1.mono gw3) ⟨.lst upd_same (dqA_ints _), sz_list.mpr ⟨by rw [List.length_map, sizeLine_eq]; have := ssI_len ns; omega, fun d hd => by obtain ⟨i, _, rfl⟩ := List.mem_map.mp hd; exact sz_int i⟩⟩
theorem e_ssI [fx : Fx X sc N k] {ns : List Int} (ha : DE X ρ a (.list (ns.map .int))) (hz : ns.length < 64) (hg : glB sc "sorted" = true := by decide +kernel) (hg2 : glB sc "set" = true := by decide +kernel) (he : starEach [a] X.env = [(false, eval a X.env)] := by rfl) :
    DE X ρ (.Call (.Name "sorted" p) [.Call (.Name "set" p2) [a] [] pos2] [] pos) (.list ((ssI ns).map .int)) := e_ssI' ha (by omega) (Nat.lt_of_le_of_lt (dups_len _ ns (Nat.le_refl _)) hz) hg hg2 he
/-- sorted(s), s a set of tuples of ints -/
def rSortSC (K : PySem.W.Frag) (P : Program) (w : World) : List V → Hp → VK → Prop := fun vs H Q => ∃ (a : Addr) (L : List (Addr × List Int)), vs = [V.ref a] ∧ H a = some (SetTO P w a L) ∧ (∀ p ∈ L, SqT K H p.1 (p.2.map V.int)) ∧
  ∀ (us : List V) (L1 : List (Addr × List Int)) (p : Addr), L1.Perm L → (L.map (·.2)).Nodup → L.length < 64 → PySem.W.EachIs (fun v c => ∃ q ∈ L, v = V.ref q.1 ∧ c = q.2) us (sortC (L1.map (·.2))) → H p = none → Q (.ref p) (upd H p (.lst us))
theorem each_refs {L : List (Addr × List Int)} : ∀ {out : List Value} {bs : List (List Int)}, PySem.W.EachIs (fun v c => ∃ q ∈ L, v = Value.ref q.1 ∧ c = q.2) out bs → ∃ us : List V, Vals us out ∧ PySem.W.EachIs (fun v c => ∃ q ∈ L, v = V.ref q.1 ∧ c = q.2) us bs
  | _, _, .nil => ⟨[], .nil, .nil⟩
  | _, _, .cons ⟨q, h1, h2, h3⟩ t => by
    obtain ⟨us, k1, k2⟩ := each_refs t
    subst h2
    exact ⟨.ref q.1 :: us, .cons rfl k1, .cons ⟨q, h1, rfl, h3⟩ k2⟩
theorem cr_sortSC (hc : X.calm = true) (hu : X.A.units + 64 < cLine) : CallR X (.builtin "sorted") (rSortSC X.K X.prog X.w) := by
  intro pins s σ H vs us0 Q I r h
  obtain ⟨a, L, rfl, ha, hk, q⟩ := h
  have R0 : SetT0 X.prog X.w s.heap a L := (I.hok a _ ha).1
  obtain ⟨es, ep, t, R⟩ := R0.full fun p hp => I.isT (hk p hp)
  rw [Vals.ref1 r]
  refine sorted_set_c R (I.ok.hd hc) (by omega) fun s' p out c L1 k g o hp hg pm eo => ?_
  obtain ⟨us, hv, hus⟩ := each_refs eo
  have hlen : us.length ≤ sizeLine := by rw [hus.length, (sortC_perm _).length_eq, List.length_map, pm.length_eq, sizeLine_eq]; have := R.few; omega
  have hn : H p = none := I.hok.fresh hp
  have J : Inv X pins σ (upd H p (.lst us)) { s with heap := s'.heap, gens := s'.gens, drawn := s'.drawn, toks := s'.toks } :=
    I.call (ch := []) (Un.laid k hp hn) (I.hok.laid k hp ⟨hlen, out, c, hv, hg⟩) (by rw [g]; exact I.bare) (fun _ z => nomatch z)
  have e : s' = { s with heap := s'.heap, gens := s'.gens, drawn := s'.drawn, toks := s'.toks } := by
    cases s'
    cases s
    cases o
    rfl
  rw [e]
  exact ⟨.ref p, _, J, rfl, q us L1 p pm R.nd R.few hus hn⟩
theorem rows_of {F : Hp} : ∀ {us : List V} {cs : List (List Int)}, DqA F us (cs.map cD) → ∃ ks : List (Addr × List Int), us = ks.map (fun p => V.ref p.1) ∧ cs = ks.map (·.2) ∧ ∀ p ∈ ks, Tp F p.1 (p.2.map V.int)
  | _, [], h => by
    have h' : DqA F _ [] := h
    cases h'
    exact ⟨[], rfl, rfl, fun p hp => by cases hp⟩
  | _, c :: cs, h => by
    have h' : DqA F _ (cD c :: cs.map cD) := h
    cases h' with
    | cons h1 h2 =>
      obtain ⟨ks, e1, e2, e3⟩ := rows_of h2
      cases h1 with
      | @tup A xs _ q1 q2 =>
        have e := dqA_ints_inv q2
        subst e
        exact ⟨(A, c) :: ks, by rw [e1]; rfl, by rw [e2]; rfl, fun p hp => (List.mem_cons.mp hp).elim (fun z => by rw [z]; exact q1) (e3 p)⟩
theorem e_ssC [fx : Fx X sc N k] {cs : List (List Int)} (ha : DE X ρ a (.list (cs.map cD))) (hz : cs.length < 64) (hg : glB sc "sorted" = true := by decide +kernel) (hg2 : glB sc "set" = true := by decide +kernel) (he : starEach [a] X.env = [(false, eval a X.env)] := by rfl) :
    DE X ρ (.Call (.Name "sorted" p) [.Call (.Name "set" p2) [a] [] pos2] [] pos) (.list ((ssC cs).map cD)) := by
  refine PE.weak (pe_callB (cr_sortSC fx.calm fx.room.units) (gl_of fx.hsc hg).1 (fx.bn _ bn_sorted) (by decide +kernel) (pa_cons (pe_callTy (cr_setOfT fx.calm fx.room.units) (gl_of fx.hsc hg2).1 (fx.bn _ bn_set) (by decide +kernel) (pa_cons ha pa_nil he) (by decide) (by decide) he rfl) pa_nil)) fun σ H Q ⟨F0, H0, F, g, r, q⟩ => ⟨F0, H0, F, g, r, fun v d F1 H1 p1 g1 s1 r1 i1 => ?_⟩
  subst p1
  obtain ⟨l, us, rfl, h1, h2, h3, h4⟩ := i1.lst_inv
  obtain ⟨ks, e1, e2, e3⟩ := rows_of h2
  subst e1
  have hkl : ks.length = cs.length := by rw [e2, List.length_map]
  refine ⟨l, ks, rfl, SqL.of (g1.fh _ _ h1), fun p hp => ((e3 p hp).mono g1.fh).sq, by omega, fun A L hA hL1 hL2 => ⟨A, L, rfl, upd_same, fun p hp => ?_, fun us2 L1 q2 pm nd hf eo hq => ?_⟩⟩
  · exact ((e3 p (hL1 p hp)).mono (g1.fh.trans (same_new hA))).sq
  · have es : sortC (L1.map (·.2)) = ssC cs := ssC_eq ((pm.map (·.2)).nodup_iff.mpr nd) fun c => by
      rw [(pm.map (·.2)).mem_iff, e2]
      refine ⟨fun hc => ?_, fun hc => ?_⟩
      · obtain ⟨p, hp, rfl⟩ := List.mem_map.mp hc
        exact List.mem_map.mpr ⟨p, hL1 p hp, rfl⟩
      · obtain ⟨p, hp, rfl⟩ := List.mem_map.mp hc
        exact hL2 p hp
    rw [es] at eo
    have gw := Gw.new (o := SetTO X.prog X.w A L) g1.fh hA
    have hd : DqA F1 us2 ((ssC cs).map cD) := by
      have conv : ∀ {us2 : List V} {bs : List (List Int)}, PySem.W.EachIs (fun v c => ∃ q ∈ L, v = V.ref q.1 ∧ c = q.2) us2 bs → DqA F1 us2 (bs.map cD) := by
        intro us2 bs h
        induction h with
        | nil => exact .nil
        | cons h _ ih =>
          obtain ⟨q, h1, rfl, rfl⟩ := h
          exact .cons (.tup (e3 q (hL1 q h1)) (dqA_ints _)) ih
      exact conv eo
    have gw2 := Gw.dat (o := .lst us2) gw.fh hq
    have gw3 := gw.trans gw2
    refine q _ _ _ _ rfl (g1.trans gw3) (s1.trans gw3.ff) (r1.mono gw3) ⟨.lst upd_same (dqA_mono gw3.ff _ _ hd), sz_list.mpr ⟨by rw [List.length_map, sizeLine_eq]; have := ssC_len cs; omega, sz_cD h4 fun b hb => ssC_mem.mp hb⟩⟩
end
end Rb
/-! Rb, part v: slices, stars, index, isinstance, unpacking, drawn values -/
namespace Rb
open PySem PySem.Spec L2
section
variable {X : Cx} {ρ : List Sl} {sc : Scope} {N : List Str} {k : Nat} {a b c e o : Expr} {rest es : List Expr} {sts : List Stmt} {pos p p1 p2 apos : Pos} {P Pa Pb : PyData → Prop} {Po : Out → Prop} {d da db : PyData} {i j : Int} {ds ds' : List PyData} {ns : List Int} {x : Str}
/-! ### slices of tuples: t[n:] -/
def rSlF (K : PySem.W.Frag) : V → Option Int → Option Int → Hp → VK → Prop := fun x lo hi H Q => ∃ a xs, x = .ref a ∧ SqT K H a xs ∧
  ¬ (HT.sIx xs.length 0 lo = 0 ∧ HT.sIx xs.length xs.length hi = xs.length) ∧ ∀ p (o : Obj), H p = none → o.dict = none → Q (.ref p) (upd H p (.frz o (.tup (cutV xs lo hi))))
theorem sl_tupF : SlR X (rSlF X.K) := by
  intro pins s σ H x v vl vu lo hi sl Q I rx hs pl pu h
  obtain ⟨a, xs, rfl, hx, hw, q⟩ := h
  cases rx
  obtain ⟨its, r, ht, hz⟩ := I.tuple hx
  have hlen : its.toArray.size = xs.length := by rw [List.size_toArray]; exact r.length.symm
  refine ⟨"tuple", _, PyProof.Rows.slot_tuple_getitem.lookup, ht.typeIs, ?_⟩
  refine HT.getItem_tuple_cut ht hs pl pu (by rw [hlen]; exact hw) ?_ (by rw [hlen]; exact hz)
  rw [hlen]
  have hg : (s.heap.push ({ cls := .type "tuple", data := .seq ((its.drop (HT.sIx xs.length 0 lo)).take (HT.sIx xs.length xs.length hi - HT.sIx xs.length 0 lo)).toArray } : Obj)).get? s.heap.objs.size = some { cls := .type "tuple", data := .seq ((its.drop (HT.sIx xs.length 0 lo)).take (HT.sIx xs.length xs.length hi - HT.sIx xs.length 0 lo)).toArray } := Heap.get?_push_size _ rfl
  refine ⟨.ref s.heap.objs.size, _, I.laid (t' := s.toks) (o := .frz _ (.tup (cutV xs lo hi))) (fun b ob q => Heap.get?_push_of_some _ q) (Nat.le_refl _) ⟨hg, ?_⟩, rfl, q _ _ (I.hok.fresh (Nat.le_refl _)) rfl⟩
  exact ⟨Nat.le_trans (cutV_length xs lo hi) hz, _, (r.drop (HT.sIx xs.length 0 lo)).take (HT.sIx xs.length xs.length hi - HT.sIx xs.length 0 lo), PyProof.Rows.IsTup.new _ _⟩
/-- t[n:], 0 < n -/
theorem e_slT {n : Nat} (ha : DE X ρ a (.tuple ds)) (hb : DE X ρ b (.int n)) (hn : 0 < n) (hl : 0 < ds.length) : DE X ρ (.Subscript a (.Slice (some b) none none p2) pos) (.tuple (ds.drop n)) := by
  refine PE.weak (pe_slice sl_tupF ha (po_some hb) po_none) fun σ H Q ⟨F0, H0, F, g, r, q⟩ => ⟨F0, H0, F, g, r, fun v1 d1 F1 H1 p1 g1 s1 r1 i1 => ⟨F0, H0, F1, g1, r1, fun v2 d2 F2 H2 p2 g2 s2 r2 i2 => ?_⟩⟩
  subst p1; subst p2
  obtain ⟨A, vs, rfl, h1, h2, h3, h4⟩ := i1.tup_inv
  have hlen := dqA_len h2
  refine ⟨n, i2.int_inv, A, vs, rfl, (h1.mono (s2.trans g2.fh)).sq, fun h => ?_, fun l ob hl ho => ?_⟩
  · have e := h.1
    rw [HT.sIx_nat] at e
    omega
  · have ec : cutV vs (some (n : Int)) none = vs.drop n := by
      unfold cutV
      rw [HT.sIx_nat, HT.sIx_none]
      by_cases hnl : n ≤ vs.length
      · rw [Nat.min_eq_left hnl, List.take_of_length_le (by rw [List.length_drop]; omega)]
      · rw [Nat.min_eq_right (by omega), Nat.sub_self, List.take_zero, List.drop_eq_nil_of_le (by omega)]
    rw [ec]
    exact new_tup (ds := ds.drop n) g2.fh (dqA_drop n (dqA_mono s2 _ _ h2)) (by rw [List.length_drop]; omega) (fun d hd => h4 d (List.mem_of_mem_drop hd)) (fun v d' F' H' hd gw is => q v d' F' H' hd (g2.trans gw) (s1.trans (s2.trans gw.ff)) (r2.mono gw) is) l ob hl ho
/-- .., *t -/
theorem a_star {as : List Sl} (ha : DE X ρ a (.tuple ds)) (hr : DA X ρ es (fun x => x = as)) (hs : starEach (.Starred a p :: es) X.env = (true, eval a X.env) :: starEach es X.env := by rfl) : DA X ρ (.Starred a p :: es) (fun x => x = ds.map .dat ++ as) := by
  refine PA.weak (StX.pa_star ha hr hs) fun σ H Q ⟨F0, H0, F, g, r, q⟩ => ⟨F0, H0, F, g, r, fun v d F1 H1 p1 g1 s1 r1 i1 => ?_⟩
  subst p1
  obtain ⟨A, vs, rfl, h1, h2, h3, h4⟩ := i1.tup_inv
  refine ⟨A, vs, rfl, .inl (h1.mono g1.fh).sq, F0, H0, F1, g1, r1, fun ws bs F2 H2 p2 g2 s2 r2 i2 => ?_⟩
  subst p2
  refine q _ _ F2 H2 rfl g2 (s1.trans s2) r2 ?_
  have conv : ∀ {vs : List V} {ds : List PyData}, DqA F1 vs ds → (∀ d ∈ ds, Sz d) → ArOk H0 F2 H2 (vs ++ ws) (ds.map .dat ++ bs) := by
    intro vs ds h
    induction ds generalizing vs with
    | nil => intro _; cases h; exact i2
    | cons d ds ih =>
      intro hz
      cases h with
      | cons h1 h2 => exact .cons ⟨_, rfl, ⟨dq_mono s2 _ _ h1, hz _ List.mem_cons_self⟩⟩ (ih h2 fun d hd => hz d (List.mem_cons_of_mem _ hd))
  exact conv h2 h4

/-! ### t.index(c), t a tuple of clauses -/
def tTIx (to : TE) (t : TA) : TE := fun σ H Q => to σ H fun x H1 => (∃ a xs, x = .ref a ∧ Tp H1 a xs) ∧ t σ H1 fun ys H2 => ∃ (a : Addr) (xs : List V) (F : Hp) (cs : List (List Int)) (y : V) (cc : List Int) (j : Nat), x = .ref a ∧ ys = [y] ∧ Same F H2 ∧ Tp F a xs ∧ DqA F xs (cs.map cD) ∧ Dq F y (cD cc) ∧ (∃ h : j < cs.length, cs[j] = cc) ∧ (∀ m (h : m < cs.length), m < j → cs[m] ≠ cc) ∧ Q (.int (j : Nat)) H2
theorem Tp.obj {pins : List (Addr × Obj)} {σ : St} {H : Hp} {s : Shared} {A : Addr} {xs : List V} (I : Inv X pins σ H s) (h : Tp H A xs) : ∃ (its : List Value) (n : Nat) (sl : Array (Option Value)), Vals xs its ∧ s.heap.get? A = some { cls := .type "tuple", dict := none, data := .seq its.toArray n, slots := sl } ∧ xs.length ≤ sizeLine := by
  obtain ⟨ob, h1, h2⟩ := h
  obtain ⟨e, z, its, r, ob', e', c, n, dt⟩ := I.hok A _ h1
  rw [e] at e'
  cases e'
  obtain ⟨oc, od, odt, osl⟩ := ob
  simp only at h2 c dt
  subst h2 c dt
  exact ⟨its, n, osl, r, e, z⟩
theorem lay_cDs : ∀ cs : List (List Int), PyData.canLayAll0 (cs.map cD) = true
  | [] => by simp [PyData.canLayAll0]
  | c :: cs => by
    rw [List.map_cons, PyData.canLayAll0, lay_cDs cs]
    simp only [PyData.canLay0, Bool.and_true]
    exact lay_ints c
theorem dep_cDs : ∀ cs : List (List Int), PyData.depthAll (cs.map cD) ≤ 1
  | [] => by simp [PyData.depthAll]
  | c :: cs => by
    rw [List.map_cons, PyData.depthAll, cD_depth]
    have := dep_cDs cs
    omega
theorem eqv_cD (c c' : List Int) : PyData.eqv (cD c) (cD c') = decide (c = c') := by
  show PyData.eqv (.tuple (c.map .int)) (.tuple (c'.map .int)) = _
  rw [PyData.eqv, eqvAll_ints]
theorem pe_tidx {to : TE} {t : TA} {cpos : Pos} (hu : X.A.units + 64 < cLine) (ho : PE X o to) (ha : PA X (e :: es) t)
    (hbase : attributeBase o "index" X.env (eval o X.env) = eval o X.env := by rfl)
    (hfew : ((backTo cpos (starEach (e :: es) X.env)).all (fun x => !x.1) && (backToKw cpos (keywordEach [] X.env)).all (fun x => x.1.isSome)
      && decide ((e :: es).length + ([] : List Keyword).length + (if ([] : List Keyword).isEmpty then 0 else 1) < 30)) = true := by rfl)
    (hline : (apos.endLine == cpos.line) = true := by rfl) (hs : starEach (e :: es) X.env = (false, eval e X.env) :: starEach es X.env := by rfl) (hplain : (backTo cpos (starEach es X.env)).any (·.1) = false := by rfl) :
    PE X (.Call (.Attribute o "index" apos) (e :: es) [] cpos) (tTIx to t) := by
  refine ⟨fun pins s σ H Q I h => ?_⟩
  refine wpAny_Call_method_late hbase hfew hline rfl (thn (ho.run pins s σ H _ I h) fun v s1 ⟨x, H1, I1, r1, ty, q1⟩ => ?_)
  obtain ⟨A0, xs0, rfl, hTp⟩ := ty
  cases r1
  obtain ⟨its0, n0, sl0, _, hob, _⟩ := Tp.obj I1 hTp
  refine ⟨"tuple", "tuple.index", F.plainAttrs_tuple, F.slot_tuple_index, F.type_tuple_index, ⟨_, hob, rfl⟩, fun a' e' => by cases e'; exact ⟨_, hob, rfl⟩, ?_⟩
  have hA := ha.run cpos pins s1 σ H1 _ I1 q1
  rw [hs] at hA ⊢
  refine Calls.callWith_builtin (by show (false || (backTo cpos (starEach es X.env)).any (·.1)) = false; rw [hplain] <;> rfl) (Calls.evalArgs_plain ?_)
  refine thn hA fun us s2 ⟨vs, H2, I2, r2, q2⟩ => ?_
  obtain ⟨A, xs, F', cs, y, cc, j, ea, rfl, sF, hT, hd, hy, ⟨hj, ej⟩, hno, q⟩ := q2
  cases ea
  obtain ⟨uy, rfl, ry⟩ := r2.one
  obtain ⟨its, n, sl, rv, hob2, hz⟩ := Tp.obj I2 (hT.mono sF)
  obtain ⟨bs, rr1⟩ := Dp.reads I2 (cD cc) y uy (dq_dp _ _ (dq_mono sF _ _ hy)) ry
  obtain ⟨as, h4⟩ := Dp.readsAll I2 (cs.map cD) xs its (dqA_dp _ _ (dqA_mono sF _ _ hd)) rv
  have hn : its.length = cs.length := by rw [← rv.length, dqA_len hd, List.length_map]
  have hmap : its.map (SeqAt.readOf s2.heap) = cs.map cD := SeqAt.readsAll_map (cs.map cD) its as (lay_cDs cs) h4
  have hjs : j < its.toArray.size := by rw [List.size_toArray]; omega
  have at_ : ∀ (m : Nat) (hm : m < its.toArray.size) (hm2 : m < cs.length), SeqAt.readOf s2.heap its.toArray[m] = cD cs[m] := fun m hm hm2 => by
    have e0 : (its.map (SeqAt.readOf s2.heap))[m]? = some (cD cs[m]) := by rw [hmap, List.getElem?_map, List.getElem?_eq_getElem hm2]; rfl
    rw [List.getElem?_map, List.getElem?_eq_getElem (by simpa using hm)] at e0
    simpa using e0
  have hd1 := dep_cDs cs
  have hd2 := cD_depth cc
  refine call_meets F.slot_tuple_index ⟨_, hob2, rfl⟩ F.entry_tuple_index (F.args_tuple_index_2 _ _) (TI.tuple_indexAt A0 its.toArray n none sl uy (fun u => PyData.eqv (SeqAt.readOf s2.heap u) (cD cc)) j hjs ?_ ?_)
    ⟨hob2, SeqAt.items_eqAt (vs := its.toArray) (show ReadsAll s2.heap its.toArray.toList (cs.map cD) as from h4) rr1 (lay_cDs cs) (SeqAt.canLay_of_shaped (shp_c cc)) (by omega), ?_⟩
  · show PyData.eqv (SeqAt.readOf s2.heap its.toArray[j]) (cD cc) = true
    rw [at_ j hjs hj, ej, eqv_cD]
    exact decide_eq_true rfl
  · intro m hm hmj
    have hm2 : m < cs.length := by omega
    show PyData.eqv (SeqAt.readOf s2.heap its.toArray[m]) (cD cc) = false
    rw [at_ m hm hm2, eqv_cD]
    exact decide_eq_false (hno m hm2 hmj)
  · exact ⟨.int (j : Nat), H2, I2.tok _, ⟨_, rfl⟩, q⟩
theorem e_idx [fx : Fx X sc N k] {cs : List (List Int)} {cc : List Int} {j : Nat} {cpos : Pos} (ho : DE X ρ o (.tuple (cs.map cD))) (ha : DE X ρ a (cD cc)) (hj : ∃ h : j < cs.length, cs[j] = cc) (hno : ∀ m (h : m < cs.length), m < j → cs[m] ≠ cc)
    (hbase : attributeBase o "index" X.env (eval o X.env) = eval o X.env := by rfl)
    (hfew : ((backTo cpos (starEach [a] X.env)).all (fun x => !x.1) && (backToKw cpos (keywordEach [] X.env)).all (fun x => x.1.isSome)
      && decide ([a].length + ([] : List Keyword).length + (if ([] : List Keyword).isEmpty then 0 else 1) < 30)) = true := by rfl)
    (hline : (apos.endLine == cpos.line) = true := by rfl) (hs : starEach [a] X.env = [(false, eval a X.env)] := by rfl) : DE X ρ (.Call (.Attribute o "index" apos) [a] [] cpos) (.int (j : Nat)) := by
  refine PE.weak (pe_tidx fx.room.units ho (pa_cons ha pa_nil hs) hbase hfew hline hs rfl) fun σ H Q ⟨F0, H0, F, g, r, q⟩ => ⟨F0, H0, F, g, r, fun v1 d1 F1 H1 p1 g1 s1 r1 i1 => ?_⟩
  subst p1
  obtain ⟨A, vs, rfl, h1, h2, h3, h4⟩ := i1.tup_inv
  refine ⟨⟨A, vs, rfl, h1.mono g1.fh⟩, F0, H0, F1, g1, r1, fun v2 d2 F2 H2 p2 g2 s2 r2 i2 => ?_⟩
  subst p2
  exact ⟨A, vs, F2, cs, v2, cc, j, rfl, rfl, g2.fh, h1.mono s2, dqA_mono s2 _ _ h2, i2.1, hj, hno, q _ _ F2 H2 rfl g2 (s1.trans s2) r2 is_int⟩

/-! ### isinstance -/
def tyN : PyData → String
  | .none => "NoneType"
  | .bool _ => "bool"
  | .int _ => "int"
  | .str _ => "str"
  | .list _ => "list"
  | .tuple _ => "tuple"
  | .dict _ => "dict"
theorem tyX_of {K : PySem.W.Frag} {F H : Hp} {v : V} (s : Same F H) (h : Dq F v d) : TyX K H v (.type (tyN d)) := by
  cases h with
  | non => exact .base .non
  | bl b => exact .base (.bl b)
  | int i => exact .base (.int i)
  | str x => exact .base (.str x)
  | lst h1 _ => exact .base (.lst (s _ _ h1))
  | tup h1 _ => obtain ⟨o, h2, _⟩ := h1; exact .fTuple (s _ _ h2)
theorem ty_e [fx : Fx X sc N k] {T : String} (hx : x ∈ BN) (hv : bootBuiltins x = some (.type T)) (hn : x ≠ "__name__") (hd : (x == ("__debug__" : Str)) = false) (hg : glB sc x = true) : PE X (.Name x p) (tC (.ty T)) :=
  pe_bltn (v := .ty T) (gl_of fx.hsc hg).1 (fx.bn x hx) hv rfl hn hd
theorem e_isi [fx : Fx X sc N k] {T : String} {bb : Bool} (ha : DE X ρ a d) (hb : PE X b (tC (.ty T))) (hk : kitB (tyN d) T = some bb) (hg : glB sc "isinstance" = true := by decide +kernel) (he : starEach [a, b] X.env = (false, eval a X.env) :: starEach [b] X.env := by rfl) (he2 : starEach [b] X.env = (false, eval b X.env) :: starEach [] X.env := by rfl) (hpl : (backTo pos (starEach [b] X.env)).any (·.1) = false := by rfl) :
    DE X ρ (.Call (.Name "isinstance" p) [a, b] [] pos) (.bool bb) := by
  refine PE.weak (pe_callB call_isi (gl_of fx.hsc hg).1 (fx.bn _ bn_isi) (by decide +kernel) (pa_cons ha (pa_cons hb pa_nil he2) he) (by decide) (by decide) he hpl) fun σ H Q ⟨F0, H0, F, g, r, q⟩ => ⟨F0, H0, F, g, r, fun v1 d1 F1 H1 p1 g1 s1 r1 i1 => ?_⟩
  subst p1
  exact ⟨v1, .ty T, _, _, bb, rfl, .ty T, tyX_of g1.fh i1.1, kit_ty hk, q _ _ F1 H1 rfl g1 s1 r1 is_bl⟩
theorem b_int [fx : Fx X sc N k] (hg : glB sc "int" = true := by decide +kernel) : PE X (.Name "int" p) (tC (.ty "int")) := ty_e bn_int (by decide +kernel) (by decide) (by decide) hg
theorem b_bool [fx : Fx X sc N k] (hg : glB sc "bool" = true := by decide +kernel) : PE X (.Name "bool" p) (tC (.ty "bool")) := ty_e bn_bool (by decide +kernel) (by decide) (by decide) hg
theorem b_str [fx : Fx X sc N k] (hg : glB sc "str" = true := by decide +kernel) : PE X (.Name "str" p) (tC (.ty "str")) := ty_e bn_str (by decide +kernel) (by decide) (by decide) hg
theorem b_tuple [fx : Fx X sc N k] (hg : glB sc "tuple" = true := by decide +kernel) : PE X (.Name "tuple" p) (tC (.ty "tuple")) := ty_e bn_tuple (by decide +kernel) (by decide) (by decide) hg
theorem b_list [fx : Fx X sc N k] (hg : glB sc "list" = true := by decide +kernel) : PE X (.Name "list" p) (tC (.ty "list")) := ty_e bn_list (by decide +kernel) (by decide) (by decide) hg
/-- the answers, by the kind of the datum -/
def isInt : PyData → Bool
  | .int _ => true
  | .bool _ => true
  | _ => false
def isBool : PyData → Bool
  | .bool _ => true
  | _ => false
def isStr : PyData → Bool
  | .str _ => true
  | _ => false
def isTup : PyData → Bool
  | .tuple _ => true
  | _ => false
def isLst : PyData → Bool
  | .list _ => true
  | _ => false
def noDict : PyData → Bool
  | .dict _ => false
  | _ => true
theorem k_int (h : noDict d = true) : kitB (tyN d) "int" = some (isInt d) := by cases d <;> first | (simp only [tyN, isInt]; decide +kernel) | cases h
theorem k_bool (h : noDict d = true) : kitB (tyN d) "bool" = some (isBool d) := by cases d <;> first | (simp only [tyN, isBool]; decide +kernel) | cases h
theorem k_str (h : noDict d = true) : kitB (tyN d) "str" = some (isStr d) := by cases d <;> first | (simp only [tyN, isStr]; decide +kernel) | cases h
theorem k_tuple (h : noDict d = true) : kitB (tyN d) "tuple" = some (isTup d) := by cases d <;> first | (simp only [tyN, isTup]; decide +kernel) | cases h
theorem k_list (h : noDict d = true) : kitB (tyN d) "list" = some (isLst d) := by cases d <;> first | (simp only [tyN, isLst]; decide +kernel) | cases h

/-! ### unpacking -/
theorem pg_loc [fx : Fx X sc N k] [fl : Fl X] {n : Nat} (hN : N[n]? = some x) (hl : locB sc x = true) : PG X (.Name x p) (gName n) := pg_name (by rw [fx.hN]; exact fx.nd) (by rw [fx.hN]; exact hN) (loc_of fx.hsc hl) (.inl (fl.fn _))
theorem s_unp2 [fx : Fx X sc N k] [fl : Fl X] {d1 d2 : PyData} {x1 x2 : Str} {kk : Nat} {q1 q2 : Pos} (n1 n2 : Nat) (h1 : N[n1]? = some x1) (h2 : N[n2]? = some x2) (he : DE X ρ e (.tuple [d1, d2])) (hr : DS X ((ρ.set n1 (.dat d1)).set n2 (.dat d2)) sts Po) (l1 : locB sc x1 = true := by decide +kernel) (l2 : locB sc x2 = true := by decide +kernel)
    (hs : swapsWithSole [.Tuple [.Name x1 q1, .Name x2 q2] kk p] e pos.line X.env = pure false := by rfl) (hw : swappedStores [.Tuple [.Name x1 q1, .Name x2 q2] kk p] e X.env = pure none := by rfl) : DS X ρ (.Assign [.Tuple [.Name x1 q1, .Name x2 q2] kk p] e pos :: sts) Po := by
  refine PSs.weak (pss_cons (ps_asg he (pg_tup (n := 2) fx.calm (pgs_cons (pg_loc h1 l1) (pgs_cons (pg_loc h2 l2) pgs_nil)) rfl rfl) hs hw) hr) fun D σ H ⟨F0, H0, F, g, r, q⟩ => ⟨F0, H0, F, g, r, fun v d F1 H1 p1 g1 s1 r1 i1 => ?_⟩
  subst p1
  obtain ⟨A, vs, rfl, e1, e2, _, e4⟩ := i1.tup_inv
  cases e2 with
  | @cons v1 _ _ _ i1 t =>
    cases t with
    | @cons v2 _ _ _ i2 t =>
      cases t
      exact ⟨A, _, rfl, (e1.mono g1.fh).sq, rfl, v1, _, rfl, v2, _, rfl, rfl, F0, H0, F1, g1, (r1.setD ⟨i1, e4 _ (by simp)⟩).setD ⟨i2, e4 _ (by simp)⟩, fun o po => (q o po).mono s1⟩
theorem s_unp4 [fx : Fx X sc N k] [fl : Fl X] {d1 d2 d3 d4 : PyData} {x1 x2 x3 x4 : Str} {kk : Nat} {q1 q2 q3 q4 : Pos} (n1 n2 n3 n4 : Nat) (h1 : N[n1]? = some x1) (h2 : N[n2]? = some x2) (h3 : N[n3]? = some x3) (h4 : N[n4]? = some x4) (he : DE X ρ e (.tuple [d1, d2, d3, d4])) (hr : DS X ((((ρ.set n1 (.dat d1)).set n2 (.dat d2)).set n3 (.dat d3)).set n4 (.dat d4)) sts Po) (l1 : locB sc x1 = true := by decide +kernel) (l2 : locB sc x2 = true := by decide +kernel) (l3 : locB sc x3 = true := by decide +kernel) (l4 : locB sc x4 = true := by decide +kernel)
    (hs : swapsWithSole [.Tuple [.Name x1 q1, .Name x2 q2, .Name x3 q3, .Name x4 q4] kk p] e pos.line X.env = pure false := by rfl) (hw : swappedStores [.Tuple [.Name x1 q1, .Name x2 q2, .Name x3 q3, .Name x4 q4] kk p] e X.env = pure none := by rfl) : DS X ρ (.Assign [.Tuple [.Name x1 q1, .Name x2 q2, .Name x3 q3, .Name x4 q4] kk p] e pos :: sts) Po := by
  refine PSs.weak (pss_cons (ps_asg he (pg_tup (n := 4) fx.calm (pgs_cons (pg_loc h1 l1) (pgs_cons (pg_loc h2 l2) (pgs_cons (pg_loc h3 l3) (pgs_cons (pg_loc h4 l4) pgs_nil)))) rfl rfl) hs hw) hr) fun D σ H ⟨F0, H0, F, g, r, q⟩ => ⟨F0, H0, F, g, r, fun v d F1 H1 p1 g1 s1 r1 i1 => ?_⟩
  subst p1
  obtain ⟨A, vs, rfl, e1, e2, _, e4⟩ := i1.tup_inv
  cases e2 with
  | @cons v1 _ _ _ i1 t =>
    cases t with
    | @cons v2 _ _ _ i2 t =>
      cases t with
      | @cons v3 _ _ _ i3 t =>
        cases t with
        | @cons v4 _ _ _ i4 t =>
          cases t
          exact ⟨A, _, rfl, (e1.mono g1.fh).sq, rfl, v1, _, rfl, v2, _, rfl, v3, _, rfl, v4, _, rfl, rfl, F0, H0, F1, g1, (((r1.setD ⟨i1, e4 _ (by simp)⟩).setD ⟨i2, e4 _ (by simp)⟩).setD ⟨i3, e4 _ (by simp)⟩).setD ⟨i4, e4 _ (by simp)⟩, fun o po => (q o po).mono s1⟩
/-! ### drawn values in operators -/
theorem e_addP {Pi : Int → Prop} (ha : DE X ρ a (.int i)) (hb : DP X ρ b (fun d => ∃ j, d = .int j ∧ Pi j)) : DP X ρ (.BinOp a .Add b pos) (fun d => ∃ j, d = .int (i + j) ∧ Pi j) := DP.op op_add ha hb (by
  intro F H x y da db Q s i1 i2 pa pb q
  obtain ⟨j, rfl, pj⟩ := pb
  subst pa
  exact ⟨i, j, i1.int_inv, i2.int_inv, q _ _ F H ⟨j, rfl, pj⟩ (Gw.refl s) is_int⟩)
theorem e_ixTP {Pi : Int → Prop} (ha : DE X ρ a (.tuple ds)) (hb : DP X ρ b (fun d => ∃ j, d = .int j ∧ Pi j)) (h : ∀ j, Pi j → ∃ d, atI ds j = some d ∧ P d) (hs : PlainIx b := by exact fun _ _ => rfl) : DP X ρ (.Subscript a b pos) P := DP.ix ix_tup ha hb (by
  intro F H x y da db Q s i1 i2 pa pb q
  obtain ⟨j, rfl, pj⟩ := pb
  subst pa
  obtain ⟨d, e, pd⟩ := h j pj
  obtain ⟨A, vs, rfl, h1, h2, _, h4⟩ := i1.tup_inv
  obtain ⟨v, e1, e2⟩ := atI_dq h2 e
  exact ⟨A, vs, j, v, rfl, i2.int_inv, (h1.mono s).sq, e1, q _ _ F H pd (Gw.refl s) ⟨e2, h4 _ (atI_mem e)⟩⟩) hs
theorem e_ixLP {Pi : Int → Prop} (ha : DE X ρ a (.list ds)) (hb : DP X ρ b (fun d => ∃ j, d = .int j ∧ Pi j)) (h : ∀ j, Pi j → ∃ d, atI ds j = some d ∧ P d) (hs : PlainIx b := by exact fun _ _ => rfl) : DP X ρ (.Subscript a b pos) P := DP.ix ix_list ha hb (by
  intro F H x y da db Q s i1 i2 pa pb q
  obtain ⟨j, rfl, pj⟩ := pb
  subst pa
  obtain ⟨d, e, pd⟩ := h j pj
  obtain ⟨A, vs, rfl, h1, h2, _, h4⟩ := i1.lst_inv
  obtain ⟨v, e1, e2⟩ := atI_dq h2 e
  exact ⟨A, vs, j, v, rfl, i2.int_inv, SqL.of (s _ _ h1), e1, q _ _ F H pd (Gw.refl s) ⟨e2, h4 _ (atI_mem e)⟩⟩) hs
theorem e_negP {Pi : Int → Prop} (ha : DP X ρ a (fun d => ∃ j, d = .int j ∧ Pi j)) : DP X ρ (.UnaryOp .USub a pos) (fun d => ∃ j, d = .int (-j) ∧ Pi j) := DP.un un_neg ha (by
  intro F H x da Q s i1 pa q
  obtain ⟨j, rfl, pj⟩ := pa
  exact ⟨j, i1.int_inv, q _ _ F H ⟨j, rfl, pj⟩ (Gw.refl s) is_int⟩)
/-- a display of drawn things -/
theorem e_tupP {x1 : Nat} {es : List Expr} {Ps : List Sl → Prop} {Pd : List PyData → Prop} (h : DA X ρ es Ps) (hc : ∀ as, Ps as → ∃ ds, as = ds.map .dat ∧ ds.length ≤ sizeLine ∧ Pd ds) : DP X ρ (.Tuple es x1 pos) (fun d => ∃ ds, d = .tuple ds ∧ Pd ds) := by
  refine PE.weak (pe_tupF h) fun σ H Q ⟨F0, H0, F, g, r, q⟩ => ⟨F0, H0, F, g, r, fun vs as F1 H1 p1 g1 s1 r1 i1 => ?_⟩
  obtain ⟨ds, rfl, hl, pd⟩ := hc as p1
  obtain ⟨i2, i3⟩ := ar_dats i1
  have hlen : vs.length = ds.length := dqA_len i2
  refine ⟨by omega, fun p o hp ho => ?_⟩
  have gw := Gw.dat (o := .frz o (.tup vs)) g1.fh hp
  exact q _ _ _ _ ⟨ds, rfl, pd⟩ (g1.trans gw) (s1.trans gw.ff) (r1.mono gw) ⟨.tup (tp_new ho) (dqA_mono gw.ff _ _ i2), sz_tuple.mpr ⟨hl, i3⟩⟩
/-- tuple(e) of a drawn list -/
theorem e_tupLP [fx : Fx X sc N k] {Pl : List PyData → Prop} (ha : DP X ρ a (fun d => ∃ ds, d = .list ds ∧ Pl ds)) (hg : glB sc "tuple" = true := by decide +kernel) (he : starEach [a] X.env = [(false, eval a X.env)] := by rfl) : DP X ρ (.Call (.Name "tuple" p) [a] [] pos) (fun d => ∃ ds, d = .tuple ds ∧ Pl ds) :=
  DP.callTy call_tupleF ha (by
    intro F H x da Q s i1 pa q
    obtain ⟨ds, rfl, pl⟩ := pa
    obtain ⟨p, vs, rfl, h1, h2, h3, h4⟩ := i1.lst_inv
    exact ⟨p, vs, rfl, SqL.of (s _ _ h1), new_tup s h2 h3 h4 fun v d' F' H' hd gw is => q v d' F' H' ⟨ds, hd, pl⟩ gw is⟩) bn_tuple (by decide +kernel) (by decide) (by decide) hg he
end
end Rb
/-! Rb, part w: enumerate of a tuple, two clauses in a comprehension -/
namespace Rb
open PySem PySem.Spec L2
open Sem (wp)
open AutoSeq1 (wpAny_loadPart')
theorem meets_enumerate_newT (l : Addr) (items : Array Value) (n : Nat) (dct : Option Addr) (sl : Array (Option Value)) :
    Meets (Builtin.«enumerate.__new__» ⟨[.type "enumerate", .ref l], []⟩) (fun _ R s => s.heap.get? l = some { cls := .type "tuple", dict := dct, data := .seq items n, slots := sl } ∧
      R (.ok (.ret (.ref (s.heap.push { cls := .type "tuple_iterator", data := .fields #[.ref l, .int 0 0] }).objs.size)))
        { s with heap := (s.heap.push { cls := .type "tuple_iterator", data := .fields #[.ref l, .int 0 0] }).push { cls := .type "enumerate", data := .fields #[.none, .bool false, .ref s.heap.objs.size, rawInt 0, .none, .none] } }) :=
  .of_wp fun prog w A R s h => by
    obtain ⟨hp, g, d, tk, os⟩ := s; obtain ⟨hl, h⟩ := h
    have hsub := sub_enumerate
    have hL : Heap.IsTuple (Shared.heap ⟨hp, g, d, tk, os⟩) l items := ⟨_, hl, rfl, n, rfl⟩
    wp_walk using wpAny_loadPart' hl
    refine wpAny_stack_any fun st => wpAny_pure ?_
    split
    · rename_i c _ _ _ _ _
      cases (c == Value.type "enumerate")
      · wp_walk using wpAny_loadPart' hl, wpAny_pyIter_tuple hL
        exact ⟨_, rfl, h⟩
      · wp_walk using wpAny_loadPart' hl, wpAny_pyIter_tuple hL
        exact ⟨_, rfl, h⟩
    · wp_walk using wpAny_loadPart' hl, wpAny_pyIter_tuple hL
      exact ⟨_, rfl, h⟩
section
variable {prog : Program} {w : World} {A : Around} {E : Value → Shared → Prop} {s : Shared}
theorem call_enumerate_tuple {l : Addr} {items : Array Value} {Q : Value → Shared → Prop} (hL : s.heap.IsTuple l items)
    (h : ∀ h', IsEnum h' (s.heap.objs.size + 1) s.heap.objs.size 0 .none → h'.IsTupleIter s.heap.objs.size l 0 → h'.objs.size = s.heap.objs.size + 2 →
      (∀ b o, s.heap.get? b = some o → h'.get? b = some o) → Q (.ref (s.heap.objs.size + 1)) { s with heap := h' }) :
    wpAny (model prog w) A (call (.type "enumerate") [.ref l]) Q E s := by
  obtain ⟨⟨c, dct, dt, sl⟩, hl, hc, n, hd⟩ := hL
  replace hc : c = .type "tuple" := hc
  replace hd : dt = .seq items n := hd
  subst hc hd
  refine callType_new F.called_enumerate (by decide) (F.typeCall_enumerate_1 _) (F.newCall_enumerate_1 _) (fun obj => F.args_object_init_2 obj _) F.entry_enumerate_new
    (meets_enumerate_newT l items n dct sl) ⟨hl, ?_⟩
  have hz : (s.heap.push { cls := .type "tuple_iterator", data := .fields #[.ref l, .int 0 0] }).objs.size = s.heap.objs.size + 1 := Heap.size_push ..
  show _ ∧ _
  rw [hz]
  have he : IsEnum ((s.heap.push { cls := .type "tuple_iterator", data := .fields #[.ref l, .int 0 0] }).push
      { cls := .type "enumerate", data := .fields #[.none, .bool false, .ref s.heap.objs.size, rawInt 0, .none, .none] }) (s.heap.objs.size + 1) s.heap.objs.size 0 .none := by
    have := Heap.get?_push_size (s.heap.push { cls := .type "tuple_iterator", data := .fields #[.ref l, .int 0 0] })
      (o := { cls := .type "enumerate", data := .fields #[.none, .bool false, .ref s.heap.objs.size, rawInt 0, .none, .none] }) rfl
    rw [hz] at this; exact this
  refine ⟨⟨_, he, rfl⟩, h _ he ⟨_, Heap.get?_push_of_some _ (Heap.get?_push_size _ rfl), rfl, rfl⟩ (by rw [Heap.size_push, hz]) fun b o x => Heap.get?_push_of_some _ (Heap.get?_push_of_some _ x)⟩
end
/-- the tuple at a as it stands at each turn, each item in a new pair -/
def IteT (K : PySem.W.Frag) (a : Addr) : It :=
  ⟨fun i H => ∃ (xs : List V) (x : V), SqT K H a xs ∧ xs[i]? = some x, fun i H v H' => ∃ T x o, v = .ref T ∧ H T = none ∧ o.dict = none ∧ H' = upd H T (.frz o (.tup [.int (i : Nat), x])) ∧ ∀ xs, SqT K H a xs → xs[i]? = some x, fun i H => ∃ xs : List V, SqT K H a xs ∧ xs.length ≤ i⟩
theorem turn_enumT {P : Program} {w : World} {K : PySem.W.Frag} {elts : List Expr} {kk : Nat} {tpos : Pos} (a e it : Addr) :
    Turn P w K (.Tuple elts kk tpos) (IteT K a) [e, it] e (fun i h => (∃ old, IsEnum h e it ((i : Nat) : Int) old) ∧ h.IsTupleIter it a i ∧ e ≠ it ∧ e ≠ a ∧ it ≠ a) where
  mem := by simp
  obj := fun i h st b hb => by
    obtain ⟨⟨old, he⟩, ⟨o, ho, hc, hd⟩, _⟩ := st
    have e' : b = e ∨ b = it := by simpa using hb
    rcases e' with z | z
    · rw [z]; exact ⟨_, he, fun v q => nomatch q⟩
    · rw [z]; exact ⟨o, ho, fun v q => by rw [hd] at q; cases q⟩
  keep := fun i h h' st k => let ⟨⟨old, he⟩, hi, hne⟩ := st; ⟨⟨old, k e (by simp) _ he⟩, hi.at fun o q => k it (by simp) o q, hne⟩
  item := by
    intro X hP hw hK hc i pins s σ H E I hf st hg
    subst hP hw hK
    obtain ⟨⟨old, he⟩, hit, hne, hea, hia⟩ := st
    obtain ⟨xs, x, hq, hx⟩ := hg
    obtain ⟨its, rv, p, hz⟩ := I.tuple hq
    obtain ⟨u, hu, ru⟩ := rv.get hx
    have hel : e < s.heap.objs.size := Heap.lt_size he
    have hil : it < s.heap.objs.size := by obtain ⟨_, q, _⟩ := hit; exact Heap.lt_size q
    have hh : X.A.handled = none := I.ok.hd hc
    have pt : s.heap.IsTuple a its.toArray := p
    have hlt : i < its.toArray.size := by
      have := rv.length
      rw [List.size_toArray, ← this]
      exact (List.getElem?_eq_some_iff.mp hx).1
    refine wpAny_pyNext_enum_itemD (Draws.tuple (A := X.A.in1) hh it a (Ne.symm hia) its.toArray) he ⟨hit, pt⟩ hlt hne (by simp [hne, hea]) fun x' h' tk hP ho hit' hT hsz hk => ?_
    have ex' : x' = u := by
      have h1 : its.toArray[i]? = some u := by simpa using hu
      have h2 : its.toArray[i]? = some x' := hP
      rw [h1] at h2
      exact (Option.some.inj h2).symm
    subst ex'
    refine ⟨_, rfl, wpAny_letOwnedTupleGo_enum (s := { s with heap := h', toks := tk + 1 }) ho fun h'' he' sb => ?_⟩
    have hT2 : h''.get? s.heap.objs.size = some { cls := .type "tuple", data := .seq #[.int i tk, x'] } := (sb.2 _ (Nat.ne_of_gt hel)).trans hT
    have new : ObjOk X.prog X.w (upd H s.heap.objs.size (.frz { cls := .type "tuple", data := .seq #[.int i tk, x'] } (.tup [.int (i : Nat), x]))) h'' s.heap.objs.size (.frz { cls := .type "tuple", data := .seq #[.int i tk, x'] } (.tup [.int (i : Nat), x])) :=
      ⟨hT2, by show 2 ≤ sizeLine; decide, [.int i tk, x'], .cons ⟨_, rfl⟩ (.cons ru .nil), ⟨_, hT2, rfl, _, rfl⟩⟩
    have I1 : L2.Inv X pins σ (upd H s.heap.objs.size (.frz { cls := .type "tuple", data := .seq #[.int i tk, x'] } (.tup [.int (i : Nat), x]))) { s with heap := h'', toks := tk + 1 } :=
      I.turnedNew (ch := [e, it]) (fun b ob hb q => (sb.2 b (fun z => hb (by simp [z]))).trans (hk b ob (fun z => hb (by simp [z])) (fun z => hb (by simp [z])) q)) hf (Nat.le_refl _) new
    refine ⟨.ref s.heap.objs.size, _, I1, rfl, ⟨_, x, { cls := .type "tuple", data := .seq #[.int i tk, x'] }, rfl, I.hok.fresh (Nat.le_refl _), rfl, rfl, fun ys hy => by rw [I.tuple_inj hy hq]; exact hx⟩, ⟨⟨x', ?_⟩, hit'.1.at fun o q => (sb.2 it (Ne.symm hne)).trans q, hne, hea, hia⟩, fun b hb => ?_⟩
    · have e1 : ((i + 1 : Nat) : Int) = (i : Int) + 1 := by omega
      rw [e1]; exact he'
    · have hb' : b < s.heap.objs.size := by
        have e' : b = e ∨ b = it := by simpa using hb
        rcases e' with z | z
        · rw [z]; exact hel
        · rw [z]; exact hil
      rw [upd_ne (Nat.ne_of_lt hb')]
      exact (hf b hb).1
  done := by
    intro X hP hw hK hc i pins s σ H E I hf st hg
    subst hP hw hK
    obtain ⟨⟨old, he⟩, hit, hne, hea, hia⟩ := st
    obtain ⟨xs, hq, hx⟩ := hg
    obtain ⟨its, rv, p, hz⟩ := I.tuple hq
    obtain ⟨f0, f1, f2, f3, f4, f5⟩ := hf it (by simp)
    have hl := rv.length
    have hh : X.A.handled = none := I.ok.hd hc
    unfold pyNext
    refine wpAny_bind (wpAny_attempt (wpAny_callSpecial?_slot (name := Str.ofString "__next__") ⟨_, he, rfl⟩ F.slot_enumerate_next
      (wpAny_call_entry F.slot_enumerate_next ⟨_, he, rfl⟩ F.entry_enumerate_next ?_ (F.args_enumerate_next_1 _))))
    show wpAny _ _ (field (.ref e) 2 >>= _) _ _ _
    refine wpAny_bind (wpAny_field he rfl (x := .ref it) rfl ?_)
    refine wpAny_bind (wpAny_nextOf_tuple_end (A := X.A.in1) hh hit (show s.heap.IsTuple a its.toArray from p) (by simp; omega) fun h' x he' hx' => ?_)
    obtain ⟨o, ho, hcl⟩ := hx'
    refine wpAny_bind (wpAny_isInstance (T := "StopIteration") (b := true) ⟨o, ho, hcl⟩ isSubtype_stop ?_)
    exact wpAny_pure ⟨rfl, I.turned (t' := s.toks) (fun b o hb q => he' b o hb q) f0 f1 f3 f4 f5⟩
  self := fun A i s Q E st h => let ⟨⟨_, he⟩, _⟩ := st; wpAny_pyIter_enum he h
def iEnumT (K : PySem.W.Frag) (ta : TA) : TI := fun σ H R => ta σ H fun vs H1 => ∃ a xs, vs = [.ref a] ∧ SqT K H1 a xs ∧ R (IteT K a) H1
theorem pi_enumT {X : Cx} {e : Expr} {ta : TA} {p pos tpos : Pos} {elts : List Expr} {kk : Nat} (hg : Gl X "enumerate") (hm : X.mg "enumerate" = none) (ha : PA X [e] ta) (hs : starEach [e] X.env = [(false, eval e X.env)] := by rfl) :
    PI X (.Tuple elts kk tpos) (.Call (.Name "enumerate" p) [e] [] pos) (iEnumT X.K ta) := by
  refine ⟨fun pins s σ H R I h => ?_⟩
  refine PyProof.Rows.Call_ (ld_blt I hg hm PyProof.Rows.boot_enumerate (PyProof.Rows.callWith_type1 (thn (ha.run pos pins s σ H _ I h) fun us s1 ⟨vs, H1, I1, r1, q1⟩ => ?_) hs rfl))
  obtain ⟨a, xs, ex, hq, q⟩ := q1
  subst ex
  cases r1 with
  | cons r rr =>
    cases rr
    cases r
    obtain ⟨its, rv, p', hz⟩ := I1.tuple hq
    have hal : a < s1.heap.objs.size := by obtain ⟨o, q, _⟩ := (show s1.heap.IsTuple a its.toArray from p'); exact Heap.lt_size q
    refine call_enumerate_tuple (show s1.heap.IsTuple a its.toArray from p') fun h' he hit hsz hk => wpAny_pyIter_enum he ?_
    have I2 : L2.Inv X pins σ H1 { s1 with heap := h' } := I1.kept (t' := s1.toks) hk
    refine ⟨s1.heap.objs.size + 1, [s1.heap.objs.size + 1, s1.heap.objs.size], _, _, H1, rfl, I2, turn_enumT a (s1.heap.objs.size + 1) s1.heap.objs.size, ⟨⟨.none, he⟩, hit, Nat.succ_ne_self _, Nat.ne_of_gt (Nat.lt_succ_of_lt hal), Nat.ne_of_gt hal⟩, fun b hb => ?_, q⟩
    have e' : b = s1.heap.objs.size + 1 ∨ b = s1.heap.objs.size := by simpa using hb
    have hle : s1.heap.objs.size ≤ b := by
      rcases e' with z | z
      · rw [z]; exact Nat.le_add_right _ _
      · rw [z]; exact Nat.le_refl _
    exact I1.fpOk hle (I1.hok.fresh hle)
section
variable {X : Cx} {ρ : List Sl} {sc : Scope} {N : List Str} {k : Nat} {a b c e elt : Expr} {elts : List Expr} {kk : Nat} {pos p p1 p2 tpos : Pos} {ds es : List PyData}
/-- (0, d0), (1, d1), .. -/
def enumD (ds : List PyData) : List PyData := ds.zipIdx.map fun p => .tuple [.int (p.2 : Nat), p.1]
theorem enumD_get {i : Nat} {d : PyData} (h : ds[i]? = some d) : (enumD ds)[i]? = some (.tuple [.int (i : Nat), d]) := by
  unfold enumD
  rw [List.getElem?_map, List.getElem?_zipIdx, h]
  simp
theorem walks_enumT {K : PySem.W.Frag} {F : Hp} {A : Addr} {vs : List V} (h1 : Tp F A vs) (h2 : DqA F vs ds) (h4 : ∀ d ∈ ds, Sz d) : Walks (IteT K A) F (enumD ds) := by
  intro F' H' s1 s2 i hi
  have e : SqT K H' A vs := ((h1.mono s1).mono s2).sq
  have hl := dqA_len h2
  have hl2 : (enumD ds).length = ds.length := by unfold enumD; rw [List.length_map, List.length_zipIdx]
  rw [hl2] at *
  refine ⟨fun hlt => ?_, fun he => ⟨vs, e, by omega⟩⟩
  obtain ⟨d, hd⟩ : ∃ d, ds[i]? = some d := ⟨ds[i], List.getElem?_eq_getElem hlt⟩
  obtain ⟨v, e1, e2⟩ := dqA_get h2 hd
  refine ⟨⟨vs, v, e, e1⟩, fun x H2 y => ?_⟩
  obtain ⟨T, x', o, rfl, hT, ho, rfl, y⟩ := y
  have q := y vs e
  rw [e1] at q
  cases q
  have gw := Gw.dat (o := .frz o (.tup [.int (i : Nat), v])) s2 hT
  refine ⟨_, _, gw, enumD_get hd, .tup (tp_new ho) (.cons (.int _) (.cons (dq_mono gw.ff _ _ (dq_mono s1 _ _ e2)) .nil)), ?_⟩
  refine sz_tuple.mpr ⟨by show 2 ≤ sizeLine; decide, fun z hz => ?_⟩
  rcases List.mem_cons.mp hz with rfl | hz
  · trivial
  · rw [List.mem_singleton.mp hz]; exact h4 _ (List.mem_of_getElem? hd)
theorem i_enT [fx : Fx X sc N k] (h : DE X ρ a (.tuple ds)) (hg : glB sc "enumerate" = true := by decide +kernel) (hs : starEach [a] X.env = [(false, eval a X.env)] := by rfl) : DI X ρ (.Tuple elts kk tpos) (.Call (.Name "enumerate" p) [a] [] pos) (fun x => x = enumD ds) :=
  PI.weak (pi_enumT (gl_of fx.hsc hg).1 (fx.bn _ (by decide)) (pa_cons h pa_nil hs) hs) fun σ H R ⟨F0, H0, F, g, r, q⟩ => ⟨F0, H0, F, g, r, fun v d F1 H1 p1 g1 s1 r1 i1 => by
    subst p1
    obtain ⟨A, vs, rfl, h1, h2, h3, h4⟩ := i1.tup_inv
    exact ⟨A, vs, rfl, (h1.mono g1.fh).sq, q _ _ F1 H1 rfl g1 s1 r1 (walks_enumT h1 h2 h4) (by unfold enumD; rw [List.length_map, List.length_zipIdx]; exact h3)⟩⟩
/-! ### [elt for x in .. for y in ..] -/
theorem Rep.thaw {H0 F H : Hp} {σ : St} {D : Addr} {acc : List V} (r : Rep H0 ρ σ F H) (fD : F D = none) (hloc : ∀ s ∈ ρ, s.loc ≠ some D) : Rep H0 ρ σ (upd F D (.lst acc)) H := by
  refine ⟨r.len, fun j s e => ?_, r.ap⟩
  obtain ⟨x, q1, q2⟩ := r.ok j s e
  have hs := hloc s (List.mem_of_getElem? e)
  refine ⟨x, q1, ?_⟩
  cases s with
  | any => trivial
  | dat d => obtain ⟨v, e1, e2⟩ := q2; exact ⟨v, e1, e2.mono (same_new fD)⟩
  | own b P =>
    obtain ⟨e1, z1, z2, vs, es', z3, z4, z5⟩ := q2
    exact ⟨e1, z1, by rw [upd_ne (fun q => hs (by rw [q]; rfl))]; exact z2, vs, es', z3, dqA_mono (same_new fD) _ _ z4, z5⟩
  | dct b kvs =>
    obtain ⟨e1, z1, z2, z3⟩ := q2
    exact ⟨e1, z1, by rw [upd_ne (fun q => hs (by rw [q]; rfl))]; exact z2, z3⟩
  | obj b C fs =>
    obtain ⟨e1, dx, vs, z1, z2⟩ := q2
    exact ⟨e1, dx, vs, z1, fun f d e => (z2 f d e).mono (same_new fD)⟩
theorem Gw.thaw {F0 H0 F H : Hp} {D : Addr} {acc : List V} (g : Gw F0 H0 F H) (h0D : H0 D = none) (fD : F D = none) (hL : H D = some (.lst acc)) : Gw F0 H0 (upd F D (.lst acc)) H := ⟨g.hh, g.ff.trans (same_new fD), fun b u e => by
      by_cases hb : b = D
      · rw [hb, upd_same] at e; rw [hb, hL]; exact e
      · rw [upd_ne hb] at e; exact g.fh _ _ e, fun b u e => by
      by_cases hb : b = D
      · exact .inr (by rw [hb]; exact h0D)
      · rw [upd_ne hb] at e; exact g.nw _ _ e⟩
theorem e_lc2 [fx : Fx X sc N k] {scope : Scope} {e1 : Expr} {x y : Str} {α β : Type} {enc : α → PyData} {enc1 : β → PyData} {xs : List α} {f : α → List β} {g : α → β → PyData} (n m : Nat) (hi : DI X ρ (.Name x p1) e (fun ds => ds = xs.map enc)) (hN : N[n]? = some x) (hM : N[m]? = some y)
    (hi1 : ∀ s H C cl fp (u : α), Fx (Bk X s H scope C cl fp) (relS scope sc) N k → u ∈ xs → DI (Bk X s H scope C cl fp) ((slWp ρ [n, m]).set n (.dat (enc u))) (.Name y p2) e1 (fun ds => ds = (f u).map enc1))
    (he : ∀ s H C cl fp (u : α) (v : β), Fx (Bk X s H scope C cl fp) (relS scope sc) N k → u ∈ xs → v ∈ f u → DE (Bk X s H scope C cl fp) ((((slWp ρ [n, m]).set n (.dat (enc u))).set m .any).set m (.dat (enc1 v))) elt (g u v))
    (hz0 : (xs.flatMap f).length ≤ sizeLine) (ok : blkC N sc scope [(x, n), (y, m)] = true := by decide +kernel) (hpl : plainAt ρ [n, m] = true := by rfl) (hl : tgB sc scope x = true := by decide +kernel) (hl1 : tgB sc scope y = true := by decide +kernel)
    (hs : ∀ x, foldedSetIterable e X.env x = pure x := by intro _; rfl) (hs1 : ∀ env x, foldedSetIterable e1 env x = pure x := by intro _ _; rfl) :
    DE X ρ (.ListComp elt [⟨.Name x p1, e, [], 0⟩, ⟨.Name y p2, e1, [], 0⟩] scope pos) (.list (xs.flatMap fun u => (f u).map (g u))) := by
  have hk := kind_of ok
  let ρa : α → List Sl := fun u => (slWp ρ [n, m]).set n (.dat (enc u))
  let wi1 : TI := fun σ H R => ∃ u, u ∈ xs ∧ tI (ρa u) (fun ds => ds = (f u).map enc1) σ H R
  let te : TE := fun σ H Q => ∃ u v, u ∈ xs ∧ v ∈ f u ∧ tE (((ρa u).set m .any).set m (.dat (enc1 v))) (fun d => d = g u v) σ H Q
  have base := pe_lc2 (X := X) (pos := pos) (scope := scope) (own := [(x, n), (y, m)]) (vs1 := [m]) (elt := elt) (wi1 := wi1) (te := te) fx.calm (by rw [fx.hN]; exact fx.nd) hi (by rw [fx.hN, fx.hsc]; exact blkOk_by ok) (fun i h => by simp only [List.mem_singleton] at h; subst h; simp)
    (pg_blk hk hN hl) (fun s H C cl fp => pts_nil) (fun s H C cl fp => ⟨fun pins s' σ H' R I ⟨u, hu, q⟩ => (hi1 s H C cl fp u (fx_blk hk s H C cl fp) hu).run pins s' σ H' R I q⟩)
    (pg_blk hk hM hl1) (fun s H C cl fp => pts_nil) (fun s H C cl fp => ⟨fun pins s' σ H' Q I ⟨u, v, hu, hv, q⟩ => (he s H C cl fp u v (fx_blk hk s H C cl fp) hu hv).run pins s' σ H' Q I q⟩) hs hs1
  refine PE.weak base fun σ H Q ⟨F0, H0, F, g0, r, q⟩ => ⟨F0, H0, F, g0, r, fun J ds F1 H1 pl g1 s1 r1 wk hz D hD => ?_⟩
  subst pl
  rw [List.length_map] at hz
  have hloc : ∀ s ∈ ρ, s.loc ≠ some D := fun s hs e => by
    obtain ⟨o, ho⟩ := r1.loc hs e
    rw [hD] at ho
    cases ho
  have h0D : H0 D = none := g1.hh.free hD
  have f1D : F1 D = none := g1.fh.free hD
  have f0D : F0 D = none := g1.ff.free f1D
  -- what is made up to (i, j)
  let out : Nat → List PyData := fun i => (xs.take i).flatMap fun u => (f u).map (g u)
  have outlen : ∀ (i : Nat) (u : α) (l : Nat), xs[i]? = some u → l ≤ (f u).length → (out i).length + l ≤ (xs.flatMap f).length := fun i u l hu hl => by
    have e1 : xs = xs.take i ++ u :: xs.drop (i + 1) := by
      rw [← List.take_append_drop i xs]
      congr 1
      · rw [List.take_append_drop]
      · obtain ⟨hi, rfl⟩ := List.getElem?_eq_some_iff.mp hu
        rw [List.take_append_drop]; exact List.drop_eq_getElem_cons hi
    have e2 : (out i).length = ((xs.take i).flatMap f).length := by simp [out, List.length_flatMap]
    have e3 : (xs.flatMap f).length = ((xs.take i).flatMap f).length + ((f u).length + ((xs.drop (i + 1)).flatMap f).length) := by
      conv => lhs; rw [e1]
      rw [List.flatMap_append, List.length_append, List.flatMap_cons, List.length_append]
    rw [e2, e3]; omega
  have outstep : ∀ (i : Nat) (u : α), xs[i]? = some u → out (i + 1) = out i ++ (f u).map (g u) := fun i u hu => by
    show (xs.take (i + 1)).flatMap _ = _
    rw [List.take_add_one, hu]
    simp [out]
  have nl : ∀ {ρ' : List Sl} {i : Nat} {s : Sl}, s.loc = none → (∀ t ∈ ρ', t.loc ≠ some D) → ∀ t ∈ ρ'.set i s, t.loc ≠ some D := fun {ρ' i s} h1 h2 t ht => by
    rcases List.mem_or_eq_of_mem_set ht with h | h
    · exact h2 t h
    · rw [h, h1]; exact fun q => by cases q
  refine ⟨fun i z H' => z = xs.length - i ∧ i ≤ xs.length ∧ ∃ F' acc, Gw F0 H0 F' H' ∧ Same F1 F' ∧ Rep H0 ρ σ F' H' ∧ F' D = none ∧ H' D = some (.lst acc) ∧ DqA F' acc (out i) ∧ (∀ d ∈ out i, Sz d),
    ⟨xs.length, by omega, Nat.zero_le _, F1, [], g1.put h0D f1D, Same.refl _, r1.put hloc, f1D, upd_same, .nil, (fun _ h => by cases h)⟩, ?_⟩
  rintro i z H' ⟨rfl, hil, F', acc, g2, s2, r2, fD, hL, hA, hS⟩
  obtain ⟨w1, w2⟩ := wk F' H' s2 g2.fh i (by rw [List.length_map]; exact hil)
  rw [List.length_map] at w1 w2
  by_cases hlt : i < xs.length
  · obtain ⟨go, yld⟩ := w1 hlt
    refine .inr ⟨go, fun H4 => ∃ F' acc, Gw F0 H0 F' H4 ∧ Same F1 F' ∧ Rep H0 ρ σ F' H4 ∧ F' D = none ∧ H4 D = some (.lst acc) ∧ DqA F' acc (out (i + 1)) ∧ (∀ d ∈ out (i + 1), Sz d),
      fun H4 q4 => ⟨xs.length - (i + 1), by omega, rfl, hlt, q4⟩, fun vx H3 hy => ?_⟩
    obtain ⟨F3, d, g3, hd, i3⟩ := yld vx H3 hy
    obtain ⟨u, hu, rfl⟩ : ∃ u, xs[i]? = some u ∧ enc u = d := by
      rw [List.getElem?_map] at hd
      cases hq : xs[i]? with
      | none => rw [hq] at hd; cases hd
      | some u => rw [hq] at hd; exact ⟨u, rfl, Option.some.inj hd⟩
    have hum : u ∈ xs := List.mem_of_getElem? hu
    have g3' := g2.trans g3
    have r3 := r2.mono g3
    have f3D : F3 D = none := g3.stays fD hL
    have h3D : H3 D = some (.lst acc) := g3.hh _ _ hL
    have rw0 : Rep H0 (slWp ρ [n, m]) (L2.wipe σ [n, m]) F3 H3 := Rep.wipe [n, m] r3
    have ra : Rep H0 (ρa u) ((L2.wipe σ [n, m]).set n (some vx)) F3 H3 := rw0.setD i3
    have hw2 : L2.wipe ((L2.wipe σ [n, m]).set n (some vx)) [n, m] = L2.wipe σ [n, m] := wipe_set (by simp)
    generalize hσ2 : (L2.wipe σ [n, m]).set n (some vx) = σ2 at ra hw2
    show _ ∧ _
    simp only [List.map_cons, List.map_nil]
    rw [hσ2]
    have hloca : ∀ t ∈ ρa u, t.loc ≠ some D := nl rfl (by
      intro t ht
      have aux : ∀ (is : List Nat), ∀ t ∈ slWp ρ is, t.loc ≠ some D := by
        intro is
        induction is with
        | nil => exact hloc
        | cons i is ih => exact nl rfl ih
      exact aux _ t ht)
    have hσ : ∀ j, j ∉ [n, m] → σ2[j]? = σ[j]? := fun j hj => by rw [← L2.wipe_out (σ := σ2) hj, hw2, L2.wipe_out hj]
    have hρ : ∀ j, j ∉ [n, m] → (ρa u)[j]? = ρ[j]? := fun j hj => by
      show ((slWp ρ [n, m]).set n _)[j]? = _
      rw [List.getElem?_set_ne (fun q => hj (by rw [← q]; simp)), slWp_out hj]
    have hpla : plainAt (ρa u) [m] = true := by
      have h1 : plainAt (ρa u) [n, m] = true := plain_set rfl (slWp_plain (ρ := ρ) (is := [n, m]))
      unfold plainAt at h1 ⊢
      rw [List.all_cons, Bool.and_eq_true] at h1
      exact h1.2
    refine ⟨hw2, ?_⟩
    unfold tYes
    dsimp only
    rw [if_pos rfl]
    refine ⟨u, hum, F0, upd H0 D (.lst acc), F3, g3'.h0 h3D f3D, ra.h0 hloca, fun J1 ds1 F4 H4 pl1 g4 s4 r4 wk1 hz1 => ?_⟩
    subst pl1
    rw [List.length_map] at hz1
    obtain ⟨z1, z2, z3⟩ := g4.unh0 h0D f0D
    have r4' := r4.unh0 h0D
    have sF : Same F' F4 := g3.ff.trans s4
    refine ⟨fun j z H' => z = (f u).length - j ∧ j ≤ (f u).length ∧ ∃ F5 acc', Gw F0 H0 F5 H' ∧ Same F4 F5 ∧ Rep H0 (ρa u) σ2 F5 H' ∧ F5 D = none ∧ H' D = some (.lst acc') ∧ DqA F5 acc' (out i ++ ((f u).take j).map (g u)) ∧ (∀ d ∈ out i ++ ((f u).take j).map (g u), Sz d),
      ⟨(f u).length, by omega, Nat.zero_le _, F4, acc, z1, Same.refl _, r4', z2, z3, by simpa using dqA_mono sF _ _ hA, by simpa using hS⟩, ?_⟩
    rintro j z H5 ⟨rfl, hjl, F5, acc', g5, s5, r5, f5D, h5D, hA5, hS5⟩
    obtain ⟨v1, v2⟩ := wk1 F5 H5 s5 g5.fh j (by rw [List.length_map]; exact hjl)
    rw [List.length_map] at v1 v2
    by_cases hjt : j < (f u).length
    · obtain ⟨go1, yld1⟩ := v1 hjt
      refine .inr ⟨go1, fun H' => ∃ F5 acc', Gw F0 H0 F5 H' ∧ Same F4 F5 ∧ Rep H0 (ρa u) σ2 F5 H' ∧ F5 D = none ∧ H' D = some (.lst acc') ∧ DqA F5 acc' (out i ++ ((f u).take (j + 1)).map (g u)) ∧ (∀ d ∈ out i ++ ((f u).take (j + 1)).map (g u), Sz d),
        fun H' q' => ⟨(f u).length - (j + 1), by omega, rfl, hjt, q'⟩, fun vy H6 hy6 => ?_⟩
      obtain ⟨F6, d6, g6, hd6, i6⟩ := yld1 vy H6 hy6
      obtain ⟨v, hv, rfl⟩ : ∃ v, (f u)[j]? = some v ∧ enc1 v = d6 := by
        rw [List.getElem?_map] at hd6
        cases hq : (f u)[j]? with
        | none => rw [hq] at hd6; cases hd6
        | some v => rw [hq] at hd6; exact ⟨v, rfl, Option.some.inj hd6⟩
      have g6' := g5.trans g6
      have r6 := r5.mono g6
      have f6D : F6 D = none := g6.stays f5D h5D
      have h6D : H6 D = some (.lst acc') := g6.hh _ _ h5D
      have rb : Rep H0 (((ρa u).set m .any).set m (.dat (enc1 v))) ((L2.wipe σ2 [m]).set m (some vy)) F6 H6 := (Rep.wipe [m] r6).setD i6
      have hw3 : L2.wipe ((L2.wipe σ2 [m]).set m (some vy)) [m] = L2.wipe σ2 [m] := wipe_set (by simp)
      generalize hσ3 : (L2.wipe σ2 [m]).set m (some vy) = σ3 at rb hw3
      show _ ∧ _
      refine ⟨by rw [hσ3]; exact hw3, ?_⟩
      rw [hσ3]
      rw [if_pos rfl]
      have hlocb : ∀ t ∈ (((ρa u).set m .any).set m (.dat (enc1 v))), t.loc ≠ some D := nl rfl (nl rfl hloca)
      have hσ3' : ∀ j, j ∉ [m] → σ3[j]? = σ2[j]? := fun j hj => by rw [← L2.wipe_out (σ := σ3) hj, hw3, L2.wipe_out hj]
      have hρ3 : ∀ j, j ∉ [m] → (((ρa u).set m .any).set m (.dat (enc1 v)))[j]? = (ρa u)[j]? := fun j hj => by
        have hne : m ≠ j := fun q => hj (by rw [← q]; simp)
        rw [List.getElem?_set_ne hne, List.getElem?_set_ne hne]
      refine ⟨u, v, hum, List.mem_of_getElem? hv, F0, upd H0 D (.lst acc'), F6, g6'.h0 h6D f6D, rb.h0 hlocb, fun val d F7 H7 pd g7 s7 r7 i7 => ?_⟩
      subst pd
      obtain ⟨y1, y2, y3⟩ := g7.unh0 h0D f0D
      have r7' := r6.back (r7.unh0 h0D) s7 hpla hσ3' hρ3
      have hA7 := dqA_mono (g6.ff.trans s7) _ _ hA5
      have eo : out i ++ ((f u).take (j + 1)).map (g u) = (out i ++ ((f u).take j).map (g u)) ++ [g u v] := by
        rw [List.take_add_one, hv]; simp
      have hlen : acc'.length < sizeLine := by
        rw [dqA_len hA7, List.length_append, List.length_map, List.length_take]
        have := outlen i u (j + 1) hu hjt
        omega
      refine ⟨acc', y3, hlen, F7, acc' ++ [val], y1.put h0D y2, s5.trans (g6.ff.trans s7), r7'.put hloca, y2, upd_same, by rw [eo]; exact dqA_app hA7 (.cons i7.1 .nil), fun q hq => ?_⟩
      rw [eo] at hq
      rcases List.mem_append.mp hq with hq | hq
      · exact hS5 q hq
      · rw [List.mem_singleton.mp hq]; exact i7.2
    · have e : j = (f u).length := by omega
      subst e
      rw [List.take_length] at hA5 hS5
      refine .inl ⟨v2 rfl, F5, acc', g5, s2.trans (sF.trans s5), r3.back r5 (s4.trans s5) hpl hσ hρ, f5D, h5D, by rw [outstep i u hu]; exact hA5, by rw [outstep i u hu]; exact hS5⟩
  · have e : i = xs.length := by omega
    subst e
    refine .inl ⟨w2 rfl, ?_⟩
    have eo : out xs.length = xs.flatMap fun u => (f u).map (g u) := by simp [out]
    rw [eo] at hA hS
    have hz2 : (xs.flatMap fun u => (f u).map (g u)).length ≤ sizeLine := by
      refine Nat.le_trans (Nat.le_of_eq ?_) hz0
      simp [List.length_flatMap]
    exact q (.ref D) _ _ H' rfl (g2.thaw h0D fD hL) (s1.trans (s2.trans (same_new fD))) (r2.thaw fD hloc) ⟨.lst upd_same (dqA_mono (same_new fD) _ _ hA), sz_list.mpr ⟨hz2, hS⟩⟩
end
end Rb
/-! Rb, part y: own lists read as data for a while, written at an index; slices of lists -/
namespace Rb
open PySem PySem.Spec L2
mutual
def noL : PyData → Bool
  | .list _ => false
  | .dict _ => false
  | .tuple xs => noLA xs
  | _ => true
def noLA : List PyData → Bool
  | [] => true
  | x :: xs => noL x && noLA xs
end
/-- without a -/
def wo (F : Hp) (a : Addr) : Hp := fun b => if b = a then none else F b
theorem wo_same {F : Hp} {a : Addr} : Same (wo F a) F := fun b o e => by
  unfold wo at e
  split at e
  · cases e
  · exact e
theorem wo_ne {F : Hp} {a b : Addr} (h : b ≠ a) : wo F a b = F b := if_neg h
theorem wo_self {F : Hp} {a : Addr} : wo F a a = none := if_pos rfl
mutual
theorem dq_wo {F : Hp} {a : Addr} {xs : List V} (e : F a = some (.lst xs)) : ∀ (d : PyData) (v : V), noL d = true → Dq F v d → Dq (wo F a) v d
  | .none, _, _, h => by cases h; exact .non
  | .bool b, _, _, h => by cases h; exact .bl b
  | .int i, _, _, h => by cases h; exact .int i
  | .str x, _, _, h => by cases h; exact .str x
  | .list ds, _, n, h => by simp [noL] at n
  | .tuple ds, _, n, h => by
    cases h with
    | tup h1 h2 =>
      refine .tup ?_ (dqA_wo e ds _ (by simpa [noL] using n) h2)
      obtain ⟨o, q1, q2⟩ := h1
      exact ⟨o, by rw [wo_ne (fun z => by rw [z, e] at q1; cases q1)]; exact q1, q2⟩
  | .dict _, _, _, h => by cases h
theorem dqA_wo {F : Hp} {a : Addr} {xs : List V} (e : F a = some (.lst xs)) : ∀ (ds : List PyData) (vs : List V), noLA ds = true → DqA F vs ds → DqA (wo F a) vs ds
  | [], _, _, h => by cases h; exact .nil
  | d :: ds, _, n, h => by
    cases h with
    | cons h1 h2 =>
      rw [noLA, Bool.and_eq_true] at n
      exact .cons (dq_wo e d _ n.1 h1) (dqA_wo e ds _ n.2 h2)
end
theorem noLA_ints : ∀ c : List Int, noLA (c.map .int) = true
  | [] => rfl
  | x :: xs => by rw [List.map_cons, noLA, noLA_ints xs]; rfl
theorem noL_cD (c : List Int) : noL (cD c) = true := noLA_ints c
section
variable {X : Cx} {ρ : List Sl} {sc : Scope} {N : List Str} {k : Nat} {a b c e : Expr} {sts : List Stmt} {pos p p1 p2 p3 : Pos} {x : Str} {ds : List PyData} {d : PyData} {A : Addr} {Pa : PyData → Prop} {Pt : Out → Prop} {i : Int} {ns : List Int}
/-- for one expression an own list is data -/
theorem e_frzd {P : PyData → Prop} (n : Nat) (hρ : ρ[n]? = some (.own A (fun y => y = ds))) (hpl : ρ.zipIdx.all (fun p => p.2 == n || p.1.plain) = true) (h : DP X (ρ.set n (.dat (.list ds))) e P) (hn : ∀ d, P d → noL d = true) : DP X ρ e P := by
  have hp : ∀ (j : Nat) (s : Sl), ρ[j]? = some s → j ≠ n → s.plain = true := fun j s hj hjn => by
    have h1 : (s, j) ∈ ρ.zipIdx := by rw [List.mem_zipIdx_iff_getElem?]; exact hj
    have h2 := List.all_eq_true.mp hpl _ h1
    simpa [hjn] using h2
  refine PE.weak h fun σ H Q ⟨F0, H0, F, g, r, q⟩ => ?_
  obtain ⟨w1, z0, z1, vs, ds', z2, z3, z4, z5, rfl⟩ := own_adr r hρ
  have f0 : F0 A = none := g.ff.free z1
  have sF : Same F (upd F A (.lst vs)) := same_new z1
  have gF : Gw (upd F0 A (.lst vs)) (upd H0 A (.lst vs)) (upd F A (.lst vs)) H := ⟨fun b u e => by
      by_cases hb : b = A
      · rw [hb, upd_same] at e; rw [hb, z2]; exact e
      · rw [upd_ne hb] at e; exact g.hh _ _ e, same_upd2 g.ff, fun b u e => by
      by_cases hb : b = A
      · rw [hb, upd_same] at e; rw [hb, z2]; exact e
      · rw [upd_ne hb] at e; exact g.fh _ _ e, fun b u e => by
      by_cases hb : b = A
      · left; rw [hb, upd_same] at e ⊢; exact e
      · rw [upd_ne hb] at e ⊢; rw [upd_ne hb]; exact g.nw _ _ e⟩
  refine ⟨_, _, upd F A (.lst vs), gF, ⟨by rw [List.length_set]; exact r.len, fun m t em => ?_, fun m1 m2 t1 t2 a e1 e2 a1 a2 => ?_⟩, fun v d F' H' pd g1 s1 r1 i1 => ?_⟩
  · rw [List.getElem?_set] at em
    split at em
    · rename_i hm
      subst hm
      split at em
      · cases em
        exact ⟨_, w1, .ref A, rfl, .lst upd_same (dqA_mono sF _ _ z3), sz_list.mpr ⟨by rw [← dqA_len z3]; exact z5, z4⟩⟩
      · cases em
    · rename_i hm
      obtain ⟨x', q1, q2⟩ := r.ok m t em
      refine ⟨x', q1, ?_⟩
      have hpl := hp m t em (Ne.symm hm)
      cases t with
      | any => trivial
      | dat d => obtain ⟨v, e1, e2⟩ := q2; exact ⟨v, e1, e2.mono sF⟩
      | own b P => cases hpl
      | dct b kvs => cases hpl
      | obj b C fs => cases hpl
  · rw [List.getElem?_set] at e1
    split at e1
    · split at e1
      · cases e1; cases a1
      · cases e1
    · rename_i hm
      have hpl := hp m1 t1 e1 (Ne.symm hm)
      cases t1 with
      | any => cases a1
      | dat d => cases a1
      | own b P => cases hpl
      | dct b kvs => cases hpl
      | obj b C fs => cases hpl
  · have fA : F' A = some (.lst vs) := s1 _ _ upd_same
    have sF2 : Same F (wo F' A) := fun b u e => by
      have hb : b ≠ A := fun z => by rw [z, z1] at e; cases e
      rw [wo_ne hb]; exact s1 _ _ (sF _ _ e)
    have g2 : Gw F0 H0 (wo F' A) H' := ⟨fun b u e => g1.hh b u (by rw [upd_ne (fun z => by rw [z, z0] at e; cases e)]; exact e), g.ff.trans sF2, fun b u e => g1.fh b u (wo_same b u e), fun b u e => by
      have hb : b ≠ A := fun z => by rw [z, wo_self] at e; cases e
      rw [wo_ne hb] at e
      have := g1.nw b u e
      rwa [upd_ne hb, upd_ne hb] at this⟩
    refine q v d (wo F' A) H' pd g2 sF2 ⟨r.len, fun m t em => ?_, r.ap⟩ ⟨dq_wo fA d v (hn d pd) i1.1, i1.2⟩
    obtain ⟨x', q1, q2⟩ := r.ok m t em
    by_cases hm : m = n
    · subst hm
      rw [hρ] at em
      cases em
      exact ⟨x', q1, q2.1, z0, wo_self, vs, ds', g1.hh _ _ upd_same, dqA_mono sF2 _ _ z3, z4, z5, rfl⟩
    · have hpl := hp m t em hm
      refine ⟨x', q1, ?_⟩
      cases t with
      | any => trivial
      | dat d => obtain ⟨v, e1, e2⟩ := q2; exact ⟨v, e1, e2.mono sF2⟩
      | own b P => cases hpl
      | dct b kvs => cases hpl
      | obj b C fs => cases hpl
/-- an own list is written anew -/
theorem own_put {H0 F H : Hp} {σ : St} {Po : List PyData → Prop} {vs : List V} {es : List PyData} (r1 : Rep H0 ρ σ F H) {n : Nat} (hρ : ρ[n]? = some (.own A Po)) (z3 : DqA F vs es) (z4 : ∀ d ∈ es, Sz d) (z5 : vs.length ≤ sizeLine) : Rep H0 (ρ.set n (.own A (fun y => y = es))) σ F (upd H A (.lst vs)) := by
  obtain ⟨w2, z0, z1, vs0, ds0, z2, _⟩ := own_adr r1 hρ
  have hdist : ∀ (m : Nat) (t : Sl), ρ[m]? = some t → t.adr = some A → m = n := fun m t em et => r1.ap m n t _ A em hρ et rfl
  refine ⟨by rw [List.length_set]; exact r1.len, fun m t em => ?_, fun m1 m2 t1 t2 a e1 e2 a1 a2 => ?_⟩
  · rw [List.getElem?_set] at em
    split at em
    · rename_i hm
      subst hm
      split at em
      · cases em
        exact ⟨_, w2, rfl, z0, z1, vs, es, upd_same, z3, z4, z5, rfl⟩
      · cases em
    · rename_i hm
      obtain ⟨x', q1, q2⟩ := r1.ok m t em
      refine ⟨x', q1, ?_⟩
      cases t with
      | any => trivial
      | dat d => exact q2
      | own b P =>
        obtain ⟨e1, y1, y2, us, es, y3, y4⟩ := q2
        exact ⟨e1, y1, y2, us, es, by rw [upd_ne (fun h => hm (hdist m _ em (by rw [h]; rfl)).symm)]; exact y3, y4⟩
      | dct b kvs =>
        obtain ⟨e1, y1, y2, y3⟩ := q2
        exact ⟨e1, y1, y2, by rw [upd_ne (fun h => hm (hdist m _ em (by rw [h]; rfl)).symm)]; exact y3⟩
      | obj b C fs =>
        obtain ⟨e1, dx, us, y1, y2⟩ := q2
        exact ⟨e1, dx, us, by rw [upd_ne (fun h => by rw [h, z2] at y1; cases y1)]; exact y1, y2⟩
  · have back : ∀ (m : Nat) (t : Sl), (ρ.set n (.own A (fun y => y = es)))[m]? = some t → t.adr = some a → ∃ t', ρ[m]? = some t' ∧ t'.adr = some a := fun m t em at_ => by
      rw [List.getElem?_set] at em
      split at em
      · rename_i hm
        subst hm
        split at em
        · cases em
          exact ⟨_, hρ, at_⟩
        · cases em
      · exact ⟨t, em, at_⟩
    obtain ⟨t1', b1, c1⟩ := back m1 t1 e1 a1
    obtain ⟨t2', b2, c2⟩ := back m2 t2 e2 a2
    exact r1.ap m1 m2 t1' t2' a b1 b2 c1 c2
/-- x[j] = e, x an own list -/
theorem s_setO [fx : Fx X sc N k] {j : Nat} (n : Nat) (hN : N[n]? = some x) (hρ : ρ[n]? = some (.own A (fun y => y = ds))) (hb : DE X ρ b (.int (j : Nat))) (he : DE X ρ e d) (hj : j < ds.length) (hr : DS X (ρ.set n (.own A (fun y => y = ds.set j d))) sts Pt) (hv : visB sc x = true := by decide +kernel)
    (ha : ∀ v, assign (.Subscript (.Name x p1) b p2) X.env v = (do
      let ov ← holding [v] (eval (.Name x p1) X.env)
      let iv ← holding [v, ov] (eval b X.env)
      standAt p2
      holding [v, ov, iv] (setItem ov iv v)
      release [v, ov, iv] []) := by intro _; rfl)
    (hs : swapsWithSole [.Subscript (.Name x p1) b p2] e pos.line X.env = pure false := by rfl) (hw : swappedStores [.Subscript (.Name x p1) b p2] e X.env = pure none := by rfl) :
    DS X ρ (.Assign [.Subscript (.Name x p1) b p2] e pos :: sts) Pt := by
  obtain ⟨h1, h2, h3⟩ := vis_of (X := X) fx.hsc hv
  refine PSs.weak (pss_cons (ps_asg he (pg_sub (pe_var (i := n) (by rw [fx.hN]; exact hN) h1 h2 h3) hb set_list ha) hs hw) hr) fun D σ H ⟨F0, H0, F, g, r, q⟩ => ⟨F0, H0, F, g, r, fun v d' F1 H1 p1 g1 s1 r1 i1 => ?_⟩
  subst p1
  refine ⟨_, (own_adr r1 hρ).1, F0, H0, F1, g1, r1, fun v2 d2 F2 H2 p2 g2 s2 r2 i2 => ?_⟩
  subst p2
  obtain ⟨w2, z0, z1, vs, ds', z2, z3, z4, z5, rfl⟩ := own_adr r2 hρ
  have hlen := dqA_len z3
  have hj2 : j < vs.length := by omega
  refine ⟨A, vs, _, j, rfl, i2.int_inv, z2, by unfold ixN; rw [if_pos (by omega)]; simp [hj2], F0, H0, F2, g2.put z0 z1, own_put r2 hρ (dqA_set (dq_mono s2 _ _ i1.1) j z3) (fun y hy => ?_) (by rw [List.length_set]; exact z5), fun o po => (q o po).mono (s1.trans s2)⟩
  rcases List.mem_or_eq_of_mem_set hy with h | h
  · exact z4 y h
  · rw [h]; exact i1.2
/-- l[:n] -/
theorem e_slL {n : Nat} (ha : DE X ρ a (.list ds)) (hb : DE X ρ b (.int n)) : DE X ρ (.Subscript a (.Slice none (some b) none p2) pos) (.list (ds.take n)) := by
  refine PE.weak (pe_slice sl_list ha po_none (po_some hb)) fun σ H Q ⟨F0, H0, F, g, r, q⟩ => ⟨F0, H0, F, g, r, fun v1 d1 F1 H1 p1 g1 s1 r1 i1 => ⟨F0, H0, F1, g1, r1, fun v2 d2 F2 H2 p2 g2 s2 r2 i2 => ?_⟩⟩
  subst p1; subst p2
  obtain ⟨A, vs, rfl, h1, h2, h3, h4⟩ := i1.lst_inv
  refine ⟨n, i2.int_inv, A, vs, rfl, SqL.of ((s2.trans g2.fh) _ _ h1), fun p hp => ?_⟩
  have ec : cutV vs none (some (n : Int)) = vs.take n := by
    unfold cutV
    rw [HT.sIx_nat, HT.sIx_none]
    simp only [List.drop_zero, Nat.sub_zero]
    by_cases hnl : n ≤ vs.length
    · rw [Nat.min_eq_left hnl]
    · rw [Nat.min_eq_right (by omega), List.take_of_length_le (Nat.le_refl _), List.take_of_length_le (by omega)]
  rw [ec]
  have gw := Gw.dat (o := .lst (vs.take n)) g2.fh hp
  exact q _ _ _ _ rfl (g2.trans gw) (s1.trans (s2.trans gw.ff)) (r2.mono gw) ⟨.lst upd_same (dqA_take n (dqA_mono (s2.trans gw.ff) _ _ h2)), sz_list.mpr ⟨by rw [List.length_take]; omega, fun d hd => h4 d (List.mem_of_mem_take hd)⟩⟩
/-- list(l) -/
theorem e_listL [fx : Fx X sc N k] (ha : DE X ρ a (.list ds)) (hg : glB sc "list" = true := by decide +kernel) (he : starEach [a] X.env = [(false, eval a X.env)] := by rfl) : DE X ρ (.Call (.Name "list" p) [a] [] pos) (.list ds) :=
  DP.callTy call_list_of ha (by
    intro F H x da Q s i1 pa q
    subst pa
    obtain ⟨p, vs, rfl, h1, h2, h3, h4⟩ := i1.lst_inv
    exact ⟨p, vs, rfl, .inl (SqL.of (s _ _ h1)), new_lst s h2 h3 h4 q⟩) bn_list (by decide +kernel) (by decide) (by decide) hg he
end
end Rb
/-! the defs and their names -/
namespace Rb
open PySem PySem.Spec L2
def top (i : Nat) : Stmt := PySem.Challenge.pw_rebut_k97_whole_rising_interpolants.main.body.getD i (.Pass ⟨0, 0, 0, 0⟩)
def clsBody : Stmt → List Stmt
  | .ClassDef (body := b) .. => b
  | _ => []
abbrev sP_is_integer : Stmt := top 4
abbrev nP_is_integer : List Str := ["value"]
theorem scP_is_integer : FnScope nP_is_integer ["value"] (defScope sP_is_integer) := ⟨rfl, rfl, rfl, by decide +kernel, rfl, by decide +kernel, by decide +kernel⟩
abbrev sP_is_number : Stmt := top 5
abbrev nP_is_number : List Str := ["value"]
theorem scP_is_number : FnScope nP_is_number ["value"] (defScope sP_is_number) := ⟨rfl, rfl, rfl, by decide +kernel, rfl, by decide +kernel, by decide +kernel⟩
abbrev sP_made_clause : Stmt := top 8
abbrev nP_made_clause : List Str := ["literals", "literal"]
theorem scP_made_clause : FnScope nP_made_clause ["literals"] (defScope sP_made_clause) := ⟨rfl, rfl, rfl, by decide +kernel, rfl, by decide +kernel, by decide +kernel⟩
abbrev sP_satisfies : Stmt := top 9
abbrev nP_satisfies : List Str := ["cube", "clause", "literal"]
theorem scP_satisfies : FnScope nP_satisfies ["cube", "clause"] (defScope sP_satisfies) := ⟨rfl, rfl, rfl, by decide +kernel, rfl, by decide +kernel, by decide +kernel⟩
abbrev sP_left_over : Stmt := top 10
abbrev nP_left_over : List Str := ["clause", "cube", "literal"]
theorem scP_left_over : FnScope nP_left_over ["clause", "cube"] (defScope sP_left_over) := ⟨rfl, rfl, rfl, by decide +kernel, rfl, by decide +kernel, by decide +kernel⟩
abbrev sP_restricted : Stmt := top 11
abbrev nP_restricted : List Str := ["formula", "cube", "n", "clauses", "clause"]
theorem scP_restricted : FnScope nP_restricted ["formula", "cube"] (defScope sP_restricted) := ⟨rfl, rfl, rfl, by decide +kernel, rfl, by decide +kernel, by decide +kernel⟩
abbrev sP_renamed_clause : Stmt := top 12
abbrev nP_renamed_clause : List Str := ["clause", "names", "literal"]
theorem scP_renamed_clause : FnScope nP_renamed_clause ["clause", "names"] (defScope sP_renamed_clause) := ⟨rfl, rfl, rfl, by decide +kernel, rfl, by decide +kernel, by decide +kernel⟩
abbrev sP_renamed : Stmt := top 13
abbrev nP_renamed : List Str := ["formula", "names", "clause"]
theorem scP_renamed : FnScope nP_renamed ["formula", "names"] (defScope sP_renamed) := ⟨rfl, rfl, rfl, by decide +kernel, rfl, by decide +kernel, by decide +kernel⟩
abbrev sP_variables_of : Stmt := top 14
abbrev nP_variables_of : List Str := ["formula", "clause", "literal"]
theorem scP_variables_of : FnScope nP_variables_of ["formula"] (defScope sP_variables_of) := ⟨rfl, rfl, rfl, by decide +kernel, rfl, by decide +kernel, by decide +kernel⟩
abbrev sP_is_earlier : Stmt := top 16
abbrev nP_is_earlier : List Str := ["value", "k"]
theorem scP_is_earlier : FnScope nP_is_earlier ["value", "k"] (defScope sP_is_earlier) := ⟨rfl, rfl, rfl, by decide +kernel, rfl, by decide +kernel, by decide +kernel⟩
abbrev sP_resolvent : Stmt := top 17
abbrev nP_resolvent : List Str := ["first", "second", "v", "a", "b"]
theorem scP_resolvent : FnScope nP_resolvent ["first", "second", "v"] (defScope sP_resolvent) := ⟨rfl, rfl, rfl, by decide +kernel, rfl, by decide +kernel, by decide +kernel⟩
abbrev sP_axiom_clause : Stmt := top 18
abbrev nP_axiom_clause : List Str := ["formula", "step"]
theorem scP_axiom_clause : FnScope nP_axiom_clause ["formula", "step"] (defScope sP_axiom_clause) := ⟨rfl, rfl, rfl, by decide +kernel, rfl, by decide +kernel, by decide +kernel⟩
abbrev sP_resolved_clause : Stmt := top 19
abbrev nP_resolved_clause : List Str := ["formula", "clauses", "step"]
theorem scP_resolved_clause : FnScope nP_resolved_clause ["formula", "clauses", "step"] (defScope sP_resolved_clause) := ⟨rfl, rfl, rfl, by decide +kernel, rfl, by decide +kernel, by decide +kernel⟩
abbrev sP_next_clause : Stmt := top 21
abbrev nP_next_clause : List Str := ["formula", "clauses", "step"]
theorem scP_next_clause : FnScope nP_next_clause ["formula", "clauses", "step"] (defScope sP_next_clause) := ⟨rfl, rfl, rfl, by decide +kernel, rfl, by decide +kernel, by decide +kernel⟩
abbrev sP_sources : Stmt := top 22
abbrev nP_sources : List Str := ["step"]
theorem scP_sources : FnScope nP_sources ["step"] (defScope sP_sources) := ⟨rfl, rfl, rfl, by decide +kernel, rfl, by decide +kernel, by decide +kernel⟩
abbrev sP_moved : Stmt := top 23
abbrev nP_moved : List Str := ["step", "places"]
theorem scP_moved : FnScope nP_moved ["step", "places"] (defScope sP_moved) := ⟨rfl, rfl, rfl, by decide +kernel, rfl, by decide +kernel, by decide +kernel⟩
abbrev sP_pruned_to : Stmt := top 24
abbrev nP_pruned_to : List Str := ["steps", "last", "used", "k", "source", "places", "found"]
theorem scP_pruned_to : FnScope nP_pruned_to ["steps", "last"] (defScope sP_pruned_to) := ⟨rfl, rfl, rfl, by decide +kernel, rfl, by decide +kernel, by decide +kernel⟩
def sM_Shortener_init : Stmt := (clsBody (top 25)).getD 0 (.Pass ⟨0, 0, 0, 0⟩)
abbrev nM_Shortener_init : List Str := ["self", "formula"]
theorem scM_Shortener_init : FnScope nM_Shortener_init ["self", "formula"] (defScope sM_Shortener_init) := ⟨rfl, rfl, rfl, by decide +kernel, rfl, by decide +kernel, by decide +kernel⟩
def sM_Shortener_add : Stmt := (clsBody (top 25)).getD 1 (.Pass ⟨0, 0, 0, 0⟩)
abbrev nM_Shortener_add : List Str := ["self", "step"]
theorem scM_Shortener_add : FnScope nM_Shortener_add ["self", "step"] (defScope sM_Shortener_add) := ⟨rfl, rfl, rfl, by decide +kernel, rfl, by decide +kernel, by decide +kernel⟩
def sM_Shortener_resolve : Stmt := (clsBody (top 25)).getD 2 (.Pass ⟨0, 0, 0, 0⟩)
abbrev nM_Shortener_resolve : List Str := ["self", "a", "b", "v"]
theorem scM_Shortener_resolve : FnScope nM_Shortener_resolve ["self", "a", "b", "v"] (defScope sM_Shortener_resolve) := ⟨rfl, rfl, rfl, by decide +kernel, rfl, by decide +kernel, by decide +kernel⟩
abbrev sP_side_formula : Stmt := top 27
abbrev nP_side_formula : List Str := ["formula", "division", "side", "n", "clauses", "k", "clause"]
theorem scP_side_formula : FnScope nP_side_formula ["formula", "division", "side"] (defScope sP_side_formula) := ⟨rfl, rfl, rfl, by decide +kernel, rfl, by decide +kernel, by decide +kernel⟩
abbrev sP_common_variables : Stmt := top 28
abbrev nP_common_variables : List Str := ["formula", "division", "others", "v"]
theorem scP_common_variables : FnScope nP_common_variables ["formula", "division"] (defScope sP_common_variables) := ⟨rfl, rfl, rfl, by decide +kernel, rfl, by decide +kernel, by decide +kernel⟩
def sM_Sides_init : Stmt := (clsBody (top 29)).getD 0 (.Pass ⟨0, 0, 0, 0⟩)
abbrev nM_Sides_init : List Str := ["self", "formula", "division"]
theorem scM_Sides_init : FnScope nM_Sides_init ["self", "formula", "division"] (defScope sM_Sides_init) := ⟨rfl, rfl, rfl, by decide +kernel, rfl, by decide +kernel, by decide +kernel⟩
def sM_Sides_gate : Stmt := (clsBody (top 29)).getD 1 (.Pass ⟨0, 0, 0, 0⟩)
abbrev nM_Sides_gate : List Str := ["self", "step", "_", "a", "b", "v"]
theorem scM_Sides_gate : FnScope nM_Sides_gate ["self", "step"] (defScope sM_Sides_gate) := ⟨rfl, rfl, rfl, by decide +kernel, rfl, by decide +kernel, by decide +kernel⟩
abbrev sP_is_rising : Stmt := top 31
abbrev nP_is_rising : List Str := ["formula", "division", "common", "clause", "literal"]
theorem scP_is_rising : FnScope nP_is_rising ["formula", "division"] (defScope sP_is_rising) := ⟨rfl, rfl, rfl, by decide +kernel, rfl, by decide +kernel, by decide +kernel⟩
abbrev sP_check_rising : Stmt := top 32
abbrev nP_check_rising : List Str := ["formula", "division"]
theorem scP_check_rising : FnScope nP_check_rising ["formula", "division"] (defScope sP_check_rising) := ⟨rfl, rfl, rfl, by decide +kernel, rfl, by decide +kernel, by decide +kernel⟩
abbrev sP_rising_gate : Stmt := top 33
abbrev nP_rising_gate : List Str := ["gate"]
theorem scP_rising_gate : FnScope nP_rising_gate ["gate"] (defScope sP_rising_gate) := ⟨rfl, rfl, rfl, by decide +kernel, rfl, by decide +kernel, by decide +kernel⟩
abbrev sP_rising_interpolant : Stmt := top 34
abbrev nP_rising_interpolant : List Str := ["formula", "division", "steps", "sides", "step"]
theorem scP_rising_interpolant : FnScope nP_rising_interpolant ["formula", "division", "steps"] (defScope sP_rising_interpolant) := ⟨rfl, rfl, rfl, by decide +kernel, rfl, by decide +kernel, by decide +kernel⟩
abbrev sP_rising_values : Stmt := top 35
abbrev nP_rising_values : List Str := ["circuit", "cube", "found", "gate"]
theorem scP_rising_values : FnScope nP_rising_values ["circuit", "cube"] (defScope sP_rising_values) := ⟨rfl, rfl, rfl, by decide +kernel, rfl, by decide +kernel, by decide +kernel⟩
abbrev sP_rising_value : Stmt := top 36
abbrev nP_rising_value : List Str := ["circuit", "cube"]
theorem scP_rising_value : FnScope nP_rising_value ["circuit", "cube"] (defScope sP_rising_value) := ⟨rfl, rfl, rfl, by decide +kernel, rfl, by decide +kernel, by decide +kernel⟩
def sM_RisingMaker_init : Stmt := (clsBody (top 37)).getD 0 (.Pass ⟨0, 0, 0, 0⟩)
abbrev nM_RisingMaker_init : List Str := ["self", "formula", "division", "steps", "cube"]
theorem scM_RisingMaker_init : FnScope nM_RisingMaker_init ["self", "formula", "division", "steps", "cube"] (defScope sM_RisingMaker_init) := ⟨rfl, rfl, rfl, by decide +kernel, rfl, by decide +kernel, by decide +kernel⟩
def sM_RisingMaker_place : Stmt := (clsBody (top 37)).getD 1 (.Pass ⟨0, 0, 0, 0⟩)
abbrev nM_RisingMaker_place : List Str := ["self", "k"]
theorem scM_RisingMaker_place : FnScope nM_RisingMaker_place ["self", "k"] (defScope sM_RisingMaker_place) := ⟨rfl, rfl, rfl, by decide +kernel, rfl, by decide +kernel, by decide +kernel⟩
def sM_RisingMaker_worked_out : Stmt := (clsBody (top 37)).getD 2 (.Pass ⟨0, 0, 0, 0⟩)
abbrev nM_RisingMaker_worked_out : List Str := ["self", "k", "step", "gate", "clause", "value", "fit", "source"]
theorem scM_RisingMaker_worked_out : FnScope nM_RisingMaker_worked_out ["self", "k"] (defScope sM_RisingMaker_worked_out) := ⟨rfl, rfl, rfl, by decide +kernel, rfl, by decide +kernel, by decide +kernel⟩
abbrev sP_rising_half : Stmt := top 38
abbrev nP_rising_half : List Str := ["formula", "division", "steps", "cube", "maker", "last"]
theorem scP_rising_half : FnScope nP_rising_half ["formula", "division", "steps", "cube"] (defScope sP_rising_half) := ⟨rfl, rfl, rfl, by decide +kernel, rfl, by decide +kernel, by decide +kernel⟩
abbrev sP_falling_division : Stmt := top 39
abbrev nP_falling_division : List Str := ["formula", "division", "n", "clauses", "first", "common", "names", "v", "positive", "clause", "other", "indexes", "k"]
theorem scP_falling_division : FnScope nP_falling_division ["formula", "division"] (defScope sP_falling_division) := ⟨rfl, rfl, rfl, by decide +kernel, rfl, by decide +kernel, by decide +kernel⟩
abbrev sP_renamed_step : Stmt := top 41
abbrev nP_renamed_step : List Str := ["formula", "other", "names", "step", "_", "a", "b", "v", "literal"]
theorem scP_renamed_step : FnScope nP_renamed_step ["formula", "other", "names", "step"] (defScope sP_renamed_step) := ⟨rfl, rfl, rfl, by decide +kernel, rfl, by decide +kernel, by decide +kernel⟩
abbrev sP_renamed_steps : Stmt := top 42
abbrev nP_renamed_steps : List Str := ["formula", "names", "steps", "other", "step"]
theorem scP_renamed_steps : FnScope nP_renamed_steps ["formula", "names", "steps"] (defScope sP_renamed_steps) := ⟨rfl, rfl, rfl, by decide +kernel, rfl, by decide +kernel, by decide +kernel⟩
abbrev sL_same : Stmt := top 44
abbrev nL_same : List Str := ["_law_actual", "_law_due", "_law_k"]
theorem scL_same : FnScope nL_same ["_law_actual", "_law_due"] (defScope sL_same) := ⟨rfl, rfl, rfl, by decide +kernel, rfl, by decide +kernel, by decide +kernel⟩
abbrev sL_is_integer : Stmt := top 45
abbrev nL_is_integer : List Str := ["_law_actual"]
theorem scL_is_integer : FnScope nL_is_integer ["_law_actual"] (defScope sL_is_integer) := ⟨rfl, rfl, rfl, by decide +kernel, rfl, by decide +kernel, by decide +kernel⟩
abbrev sL_pool : Stmt := top 46
abbrev nL_pool : List Str := ["_law_script", "_law_salt", "_law_cell"]
theorem scL_pool : FnScope nL_pool ["_law_script"] (defScope sL_pool) := ⟨rfl, rfl, rfl, by decide +kernel, rfl, by decide +kernel, by decide +kernel⟩
abbrev sL_spread : Stmt := top 47
abbrev nL_spread : List Str := ["_law_cell", "_law_mixed", "_law_total", "_law_k"]
theorem scL_spread : FnScope nL_spread ["_law_cell"] (defScope sL_spread) := ⟨rfl, rfl, rfl, by decide +kernel, rfl, by decide +kernel, by decide +kernel⟩
abbrev sL_draw : Stmt := top 48
abbrev nL_draw : List Str := ["_law_pool_here", "_law_many", "_law_cell", "_law_mixed", "_law_value"]
theorem scL_draw : FnScope nL_draw ["_law_pool_here", "_law_many"] (defScope sL_draw) := ⟨rfl, rfl, rfl, by decide +kernel, rfl, by decide +kernel, by decide +kernel⟩
abbrev sL_rising : Stmt := top 49
abbrev nL_rising : List Str := ["_law_items", "_law_k"]
theorem scL_rising : FnScope nL_rising ["_law_items"] (defScope sL_rising) := ⟨rfl, rfl, rfl, by decide +kernel, rfl, by decide +kernel, by decide +kernel⟩
abbrev sL_is_clause : Stmt := top 50
abbrev nL_is_clause : List Str := ["_law_n", "_law_value", "_law_item"]
theorem scL_is_clause : FnScope nL_is_clause ["_law_n", "_law_value"] (defScope sL_is_clause) := ⟨rfl, rfl, rfl, by decide +kernel, rfl, by decide +kernel, by decide +kernel⟩
abbrev sL_with : Stmt := top 51
abbrev nL_with : List Str := ["_law_cube", "_law_literal"]
theorem scL_with : FnScope nL_with ["_law_cube", "_law_literal"] (defScope sL_with) := ⟨rfl, rfl, rfl, by decide +kernel, rfl, by decide +kernel, by decide +kernel⟩
abbrev sL_negated : Stmt := top 52
abbrev nL_negated : List Str := ["_law_cube", "_law_literal"]
theorem scL_negated : FnScope nL_negated ["_law_cube"] (defScope sL_negated) := ⟨rfl, rfl, rfl, by decide +kernel, rfl, by decide +kernel, by decide +kernel⟩
abbrev sL_within : Stmt := top 53
abbrev nL_within : List Str := ["_law_small", "_law_large", "_law_literal"]
theorem scL_within : FnScope nL_within ["_law_small", "_law_large"] (defScope sL_within) := ⟨rfl, rfl, rfl, by decide +kernel, rfl, by decide +kernel, by decide +kernel⟩
abbrev sL_fails : Stmt := top 54
abbrev nL_fails : List Str := ["_law_cube", "_law_clause"]
theorem scL_fails : FnScope nL_fails ["_law_cube", "_law_clause"] (defScope sL_fails) := ⟨rfl, rfl, rfl, by decide +kernel, rfl, by decide +kernel, by decide +kernel⟩
abbrev sL_leaf : Stmt := top 55
abbrev nL_leaf : List Str := ["_law_formula", "_law_cube", "_law_k"]
theorem scL_leaf : FnScope nL_leaf ["_law_formula", "_law_cube"] (defScope sL_leaf) := ⟨rfl, rfl, rfl, by decide +kernel, rfl, by decide +kernel, by decide +kernel⟩
abbrev sL_free : Stmt := top 56
abbrev nL_free : List Str := ["_law_formula", "_law_cube", "_law_v"]
theorem scL_free : FnScope nL_free ["_law_formula", "_law_cube"] (defScope sL_free) := ⟨rfl, rfl, rfl, by decide +kernel, rfl, by decide +kernel, by decide +kernel⟩
abbrev sL_cubes : Stmt := top 57
abbrev nL_cubes : List Str := ["_law_n", "_law_found", "_law_v", "_law_more", "_law_cube"]
theorem scL_cubes : FnScope nL_cubes ["_law_n"] (defScope sL_cubes) := ⟨rfl, rfl, rfl, by decide +kernel, rfl, by decide +kernel, by decide +kernel⟩
abbrev sL_model : Stmt := top 58
abbrev nL_model : List Str := ["_law_formula", "_law_cube"]
theorem scL_model : FnScope nL_model ["_law_formula"] (defScope sL_model) := ⟨rfl, rfl, rfl, by decide +kernel, rfl, by decide +kernel, by decide +kernel⟩
abbrev sL_some_clause : Stmt := top 59
abbrev nL_some_clause : List Str := ["_law_pool_here", "_law_n", "_law_most", "_law_found", "_law_k", "_law_v"]
theorem scL_some_clause : FnScope nL_some_clause ["_law_pool_here", "_law_n", "_law_most"] (defScope sL_some_clause) := ⟨rfl, rfl, rfl, by decide +kernel, rfl, by decide +kernel, by decide +kernel⟩
abbrev sL_drawn_formula : Stmt := top 60
abbrev nL_drawn_formula : List Str := ["_law_pool_here", "_law_most", "_law_n", "_law_rows", "_law_k", "_law_row"]
theorem scL_drawn_formula : FnScope nL_drawn_formula ["_law_pool_here", "_law_most"] (defScope sL_drawn_formula) := ⟨rfl, rfl, rfl, by decide +kernel, rfl, by decide +kernel, by decide +kernel⟩
abbrev sL_false_formula : Stmt := top 61
abbrev nL_false_formula : List Str := ["_law_pool_here", "_law_most", "_law_formula", "_law_k", "_law_model_here", "_law_clause", "_law_literal"]
theorem scL_false_formula : FnScope nL_false_formula ["_law_pool_here", "_law_most"] (defScope sL_false_formula) := ⟨rfl, rfl, rfl, by decide +kernel, rfl, by decide +kernel, by decide +kernel⟩
abbrev sL_some_tree : Stmt := top 62
abbrev nL_some_tree : List Str := ["_law_pool_here", "_law_formula", "_law_cube", "_law_leaf_here", "_law_fit", "_law_k", "_law_free_here", "_law_v"]
theorem scL_some_tree : FnScope nL_some_tree ["_law_pool_here", "_law_formula", "_law_cube"] (defScope sL_some_tree) := ⟨rfl, rfl, rfl, by decide +kernel, rfl, by decide +kernel, by decide +kernel⟩
abbrev sL_write : Stmt := top 67
abbrev nL_write : List Str := ["_law_pool_here", "_law_formula", "_law_tree", "_law_cube", "_law_steps", "_law_clause", "_law_more", "_law_literal", "_law_v", "_law_low", "_law_high", "_law_left_here"]
theorem scL_write : FnScope nL_write ["_law_pool_here", "_law_formula", "_law_tree", "_law_cube", "_law_steps"] (defScope sL_write) := ⟨rfl, rfl, rfl, by decide +kernel, rfl, by decide +kernel, by decide +kernel⟩
abbrev sL_some_steps : Stmt := top 68
abbrev nL_some_steps : List Str := ["_law_pool_here", "_law_formula", "_law_steps", "_law_last"]
theorem scL_some_steps : FnScope nL_some_steps ["_law_pool_here", "_law_formula"] (defScope sL_some_steps) := ⟨rfl, rfl, rfl, by decide +kernel, rfl, by decide +kernel, by decide +kernel⟩
abbrev sL_next : Stmt := top 69
abbrev nL_next : List Str := ["_law_formula", "_law_clauses_here", "_law_step", "_law_fits", "_law_v", "_law_left_here", "_law_literal"]
theorem scL_next : FnScope nL_next ["_law_formula", "_law_clauses_here", "_law_step"] (defScope sL_next) := ⟨rfl, rfl, rfl, by decide +kernel, rfl, by decide +kernel, by decide +kernel⟩
abbrev sL_clauses : Stmt := top 70
abbrev nL_clauses : List Str := ["_law_formula", "_law_steps", "_law_clauses_here", "_law_step", "_law_clause"]
theorem scL_clauses : FnScope nL_clauses ["_law_formula", "_law_steps"] (defScope sL_clauses) := ⟨rfl, rfl, rfl, by decide +kernel, rfl, by decide +kernel, by decide +kernel⟩
abbrev sL_is_refutation : Stmt := top 71
abbrev nL_is_refutation : List Str := ["_law_formula", "_law_value", "_law_clauses_here"]
theorem scL_is_refutation : FnScope nL_is_refutation ["_law_formula", "_law_value"] (defScope sL_is_refutation) := ⟨rfl, rfl, rfl, by decide +kernel, rfl, by decide +kernel, by decide +kernel⟩
abbrev sL_width : Stmt := top 72
abbrev nL_width : List Str := ["_law_formula", "_law_steps", "_law_clause"]
theorem scL_width : FnScope nL_width ["_law_formula", "_law_steps"] (defScope sL_width) := ⟨rfl, rfl, rfl, by decide +kernel, rfl, by decide +kernel, by decide +kernel⟩
abbrev sL_division : Stmt := top 74
abbrev nL_division : List Str := ["_law_pool_here", "_law_formula", "_law_k"]
theorem scL_division : FnScope nL_division ["_law_pool_here", "_law_formula"] (defScope sL_division) := ⟨rfl, rfl, rfl, by decide +kernel, rfl, by decide +kernel, by decide +kernel⟩
abbrev sL_side : Stmt := top 75
abbrev nL_side : List Str := ["_law_formula", "_law_division_here", "_law_side_here", "_law_clauses_here", "_law_k"]
theorem scL_side : FnScope nL_side ["_law_formula", "_law_division_here", "_law_side_here"] (defScope sL_side) := ⟨rfl, rfl, rfl, by decide +kernel, rfl, by decide +kernel, by decide +kernel⟩
abbrev sL_occurring : Stmt := top 76
abbrev nL_occurring : List Str := ["_law_formula", "_law_found", "_law_clause", "_law_literal"]
theorem scL_occurring : FnScope nL_occurring ["_law_formula"] (defScope sL_occurring) := ⟨rfl, rfl, rfl, by decide +kernel, rfl, by decide +kernel, by decide +kernel⟩
abbrev sL_common : Stmt := top 77
abbrev nL_common : List Str := ["_law_formula", "_law_division_here", "_law_second", "_law_v"]
theorem scL_common : FnScope nL_common ["_law_formula", "_law_division_here"] (defScope sL_common) := ⟨rfl, rfl, rfl, by decide +kernel, rfl, by decide +kernel, by decide +kernel⟩
abbrev sL_values : Stmt := top 78
abbrev nL_values : List Str := ["_law_circuit", "_law_cube", "_law_found", "_law_gate_here"]
theorem scL_values : FnScope nL_values ["_law_circuit", "_law_cube"] (defScope sL_values) := ⟨rfl, rfl, rfl, by decide +kernel, rfl, by decide +kernel, by decide +kernel⟩
abbrev sL_signs : Stmt := top 79
abbrev nL_signs : List Str := ["_law_variables", "_law_found", "_law_v", "_law_more", "_law_cube"]
theorem scL_signs : FnScope nL_signs ["_law_variables"] (defScope sL_signs) := ⟨rfl, rfl, rfl, by decide +kernel, rfl, by decide +kernel, by decide +kernel⟩
abbrev sL_left : Stmt := top 80
abbrev nL_left : List Str := ["_law_formula", "_law_cube", "_law_rows", "_law_clause", "_law_literal"]
theorem scL_left : FnScope nL_left ["_law_formula", "_law_cube"] (defScope sL_left) := ⟨rfl, rfl, rfl, by decide +kernel, rfl, by decide +kernel, by decide +kernel⟩
abbrev sL_gate : Stmt := top 81
abbrev nL_gate : List Str := ["_law_formula", "_law_division_here", "_law_step", "_law_word", "_law_v"]
theorem scL_gate : FnScope nL_gate ["_law_formula", "_law_division_here", "_law_step", "_law_word"] (defScope sL_gate) := ⟨rfl, rfl, rfl, by decide +kernel, rfl, by decide +kernel, by decide +kernel⟩
abbrev sL_is_rising : Stmt := top 82
abbrev nL_is_rising : List Str := ["_law_formula", "_law_division_here", "_law_common_here", "_law_clause", "_law_literal"]
theorem scL_is_rising : FnScope nL_is_rising ["_law_formula", "_law_division_here"] (defScope sL_is_rising) := ⟨rfl, rfl, rfl, by decide +kernel, rfl, by decide +kernel, by decide +kernel⟩
abbrev sL_is_refused : Stmt := top 83
abbrev nL_is_refused : List Str := ["_law_formula", "_law_division_here", "_law_steps", "_law_way"]
theorem scL_is_refused : FnScope nL_is_refused ["_law_formula", "_law_division_here", "_law_steps", "_law_way"] (defScope sL_is_refused) := ⟨rfl, rfl, rfl, by decide +kernel, rfl, by decide +kernel, by decide +kernel⟩
abbrev sL_names : Stmt := top 84
abbrev nL_names : List Str := ["_law_formula", "_law_division_here", "_law_found", "_law_first", "_law_common_here", "_law_v", "_law_clause"]
theorem scL_names : FnScope nL_names ["_law_formula", "_law_division_here"] (defScope sL_names) := ⟨rfl, rfl, rfl, by decide +kernel, rfl, by decide +kernel, by decide +kernel⟩
abbrev sL_named : Stmt := top 85
abbrev nL_named : List Str := ["_law_names_here", "_law_clause", "_law_literal"]
theorem scL_named : FnScope nL_named ["_law_names_here", "_law_clause"] (defScope sL_named) := ⟨rfl, rfl, rfl, by decide +kernel, rfl, by decide +kernel, by decide +kernel⟩
abbrev sP_law : Stmt := top 86
abbrev nP_law : List Str := ["_law_script", "_law_pool_here", "_law_formula", "_law_division_here", "_law_steps", "_law_names_here", "_law_other", "_law_clause", "_law_moved", "_law_k", "_law_circuit", "_law_step", "_law_wide", "_law_common_here", "_law_cube", "_law_value", "_law_v", "_law_greater", "_law_literal", "_law_told", "_law_small"]
theorem scP_law : FnScope nP_law ["_law_script"] (defScope sP_law) := ⟨rfl, rfl, rfl, by decide +kernel, rfl, by decide +kernel, by decide +kernel⟩
end Rb
/-! the clauses and the steps -/
namespace Rb
open PySem PySem.Spec L2
abbrev fD (n : Nat) (cs : List (List Int)) : PyData := .tuple [.int n, .tuple (cs.map cD)]
def oD : Option (List Int) → PyData
  | none => .none
  | some c => cD c
inductive Stp where
  | ax (i : Nat)
  | res (a b v : Nat)
  | wk (a : Nat) (c : List Int)
def sD : Stp → PyData
  | .ax i => .tuple [.str "axiom", .int i]
  | .res a b v => .tuple [.str "resolve", .int a, .int b, .int v]
  | .wk a c => .tuple [.str "weaken", .int a, cD c]
def leftOver (c cube : List Int) : List Int := c.filter fun l => !decide (-l ∈ cube)
def sat (cube c : List Int) : Bool := decide (0 < (c.filter fun l => decide (l ∈ cube)).length)
def restr (cs : List (List Int)) (cube : List Int) : List (List Int) := ssC ((cs.filter fun c => !sat cube c).map fun c => leftOver c cube)
def made (ls : List Int) : Option (List Int) := if (ls.filter fun l => decide (-l ∈ ls)).isEmpty then some (ssI ls) else none
def resolv (f s : List Int) (v : Int) : Option (List Int) :=
  if decide (v ∈ f) && decide (-v ∈ s) then made ((f.filter fun a => !decide (a = v)) ++ (s.filter fun b => !decide (b = -v))) else none
section
variable {X : Cx} {k : Nat}
theorem d_is_integer (d : PyData) (h : noDict d = true) [Fx X (defScope sP_is_integer) nP_is_integer k] [Fl X] : DS X [.dat d] (defBody sP_is_integer) (EndK ([d].map .dat) (fun r => r = .bool (isInt d && !isBool d))) :=
  s_ret (e_and (e_isi (e_v 0 rfl rfl) b_int (k_int h)) fun _ => e_1 (e_not (e_isi (e_v 0 rfl rfl) b_bool (k_bool h)))) (end_d rfl)
abbrev pIsInteger : Sp := spP (T := PyData) (fun d => [d]) (fun d => noDict d = true) (fun d => .bool (isInt d && !isBool d))
theorem d_is_number (i : Int) [Fx X (defScope sP_is_number) nP_is_number k] [Fl X] (hk : 1 ≤ k) (h1 : Hs X "is_integer" 1 pIsInteger) : DS X [.dat (.int i)] (defBody sP_is_number) (EndK ([.int i].map .dat) (fun r => r = .bool (decide (0 ≤ i)))) :=
  s_ret (e_and (e_call h1 (.int i) (a_d (e_v 0 rfl rfl) a_nil) rfl hk) fun _ => e_1 (e_ge (e_v 0 rfl rfl) e_int)) (end_d (by simp [isInt, isBool]))
abbrev pIsNumber : Sp := spP (T := Int) (fun i => [.int i]) (fun _ => True) (fun i => .bool (decide (0 ≤ i)))
theorem d_is_earlier (i j : Int) [Fx X (defScope sP_is_earlier) nP_is_earlier k] [Fl X] (hk : 2 ≤ k) (h1 : Hs X "is_number" 2 pIsNumber) : DS X [.dat (.int i), .dat (.int j)] (defBody sP_is_earlier) (EndK ([.int i, .int j].map .dat) (fun r => r = .bool (decide (0 ≤ i) && decide (i < j)))) :=
  s_ret (e_and (e_call h1 i (a_d (e_v 0 rfl rfl) a_nil) trivial hk) fun _ => e_1 (e_lt (e_v 0 rfl rfl) (e_v 1 rfl rfl))) (end_d rfl)
abbrev pIsEarlier : Sp := spP (T := Int × Int) (fun p => [.int p.1, .int p.2]) (fun _ => True) (fun p => .bool (decide (0 ≤ p.1) && decide (p.1 < p.2)))
theorem d_made (ls : List Int) (h : ls.length < 64) [Fx X (defScope sP_made_clause) nP_made_clause k] [Fl X] : DS X [.dat (.list (ls.map .int)), .any] (defBody sP_made_clause) (EndK ([.list (ls.map .int)].map .dat) (fun r => r = oD (made ls))) :=
  s_ifR (t_L (e_lc (enc := .int) (f := fun l => decide (-l ∈ ls)) (g := PyData.int) 1 (i_L (e_v 0 rfl rfl)) rfl
    (fun s H C cl fp y fx' hy => ts_1 (t_inL (e_neg (e_v 1 rfl rfl)) (e_v 0 rfl rfl))) (fun s H C cl fp y fx' hy hf => e_v 1 rfl rfl)))
    (fun hb => s_ret e_non (end_d (by unfold made; simp only [List.isEmpty_map] at hb; rw [if_neg (by simpa using hb)]; rfl)))
    (fun hb => s_ret (e_tupL (e_ssI (e_v 0 rfl rfl) h)) (end_d (by unfold made; simp only [List.isEmpty_map] at hb; rw [if_pos (by simpa using hb)]; rfl)))
abbrev pMade : Sp := spP (T := List Int) (fun ls => [.list (ls.map .int)]) (fun ls => ls.length < 64) (fun ls => oD (made ls))
theorem d_sat (cube c : List Int) [Fx X (defScope sP_satisfies) nP_satisfies k] [Fl X] : DS X [.dat (cD cube), .dat (cD c), .any] (defBody sP_satisfies) (EndK ([cD cube, cD c].map .dat) (fun r => r = .bool (sat cube c))) :=
  s_ret (e_gt (e_lenL (e_lc (enc := .int) (f := fun l => decide (l ∈ cube)) (g := PyData.int) 2 (i_T (e_v 1 rfl rfl)) rfl
    (fun s H C cl fp y fx' hy => ts_1 (t_inT (e_v 2 rfl rfl) (e_v 0 rfl rfl))) (fun s H C cl fp y fx' hy hf => e_v 2 rfl rfl))) e_int) (end_d (by unfold sat; rw [List.length_map]; simp))
abbrev pSat : Sp := spP (T := List Int × List Int) (fun p => [cD p.1, cD p.2]) (fun _ => True) (fun p => .bool (sat p.1 p.2))
theorem d_left (c cube : List Int) [Fx X (defScope sP_left_over) nP_left_over k] [Fl X] : DS X [.dat (cD c), .dat (cD cube), .any] (defBody sP_left_over) (EndK ([cD c, cD cube].map .dat) (fun d => d = cD (leftOver c cube))) :=
  s_ret (e_tupL (e_lc (enc := .int) (f := fun l => !decide (-l ∈ cube)) (g := PyData.int) 2 (i_T (e_v 0 rfl rfl)) rfl
    (fun s H C cl fp y fx' hy => ts_1 (t_niT (e_neg (e_v 2 rfl rfl)) (e_v 1 rfl rfl))) (fun s H C cl fp y fx' hy hf => e_v 2 rfl rfl))) (end_d rfl)
abbrev pLeft : Sp := spP (T := List Int × List Int) (fun p => [cD p.1, cD p.2]) (fun _ => True) (fun p => cD (leftOver p.1 p.2))
theorem d_restr (n : Nat) (cs : List (List Int)) (cube : List Int) (hz : cs.length < 64) [Fx X (defScope sP_restricted) nP_restricted k] [Fl X] (hk : 1 ≤ k) (h1 : Hs X "satisfies" 1 pSat) (h2 : Hs X "left_over" 1 pLeft) : DS X [.dat (fD n cs), .dat (cD cube), .any, .any, .any] (defBody sP_restricted) (EndK ([fD n cs, cD cube].map .dat) (fun d => d = fD n (restr cs cube))) :=
  s_unp2 2 3 rfl rfl (e_v 0 rfl rfl) (s_ret (e_tup (ds := [_, _]) (a_d (e_v 2 rfl rfl) (a_d (e_tupL (e_ssC (cs := (cs.filter fun c => !sat cube c).map fun c => leftOver c cube) (DE.to (e_lc (enc := cD) (xs := cs) (f := fun c => !sat cube c) (g := fun c => cD (leftOver c cube)) 4 (i_T (e_v 3 rfl rfl)) rfl
    (fun s H C cl fp y fx' hy => ts_1 (t_not (t_val (e_cb h1 (cube, y) (a_d (e_v 1 rfl rfl) (a_d (e_v 4 rfl rfl) a_nil)) trivial hk))))
    (fun s H C cl fp y fx' hy hf => e_cb h2 (y, cube) (a_d (e_v 4 rfl rfl) (a_d (e_v 1 rfl rfl) a_nil)) trivial hk)) (by rw [List.map_map]; rfl)) (by rw [List.length_map]; exact Nat.lt_of_le_of_lt (List.length_filter_le _ _) hz))) a_nil))) (end_d rfl))
abbrev pRestr : Sp := spP (T := Nat × List (List Int) × List Int) (fun p => [fD p.1 p.2.1, cD p.2.2]) (fun p => p.2.1.length < 64) (fun p => fD p.1 (restr p.2.1 p.2.2))
theorem d_resolv (f s : List Int) (v : Int) (hz : f.length + s.length < 64) [Fx X (defScope sP_resolvent) nP_resolvent k] [Fl X] (hk : 1 ≤ k) (h1 : Hs X "made_clause" 1 pMade) : DS X [.dat (cD f), .dat (cD s), .dat (.int v), .any, .any] (defBody sP_resolvent) (EndK ([cD f, cD s, .int v].map .dat) (fun d => d = oD (resolv f s v))) :=
  s_ifR (t_or (t_niT (e_v 2 rfl rfl) (e_v 0 rfl rfl)) (fun _ => t_niT (e_neg (e_v 2 rfl rfl)) (e_v 1 rfl rfl)))
    (fun hb => s_ret e_non (end_d (by unfold resolv; rw [if_neg (by revert hb; cases decide (v ∈ f) <;> cases decide (-v ∈ s) <;> simp)]; rfl)))
    (fun hb => s_ret (e_call h1 ((f.filter fun a => !decide (a = v)) ++ (s.filter fun b => !decide (b = -v))) (a_d (DE.to (e_cat
      (e_lc (enc := .int) (xs := f) (f := fun a => !decide (a = v)) (g := PyData.int) 3 (i_T (e_v 0 rfl rfl)) rfl
        (fun s H C cl fp y fx' hy => ts_1 (t_ne (e_v 3 rfl rfl) (e_v 2 rfl rfl))) (fun s H C cl fp y fx' hy hf => e_v 3 rfl rfl))
      (e_lc (enc := .int) (xs := s) (f := fun b => !decide (b = -v)) (g := PyData.int) 4 (i_T (e_v 1 rfl rfl)) rfl
        (fun s H C cl fp y fx' hy => ts_1 (t_ne (e_v 4 rfl rfl) (e_neg (e_v 2 rfl rfl)))) (fun s H C cl fp y fx' hy hf => e_v 4 rfl rfl))
      (by have h1 := List.length_filter_le (fun a => !decide (a = v)) f; have h2 := List.length_filter_le (fun b => !decide (b = -v)) s; rw [List.length_map, List.length_map, sizeLine_eq]; omega)) (by rw [List.map_append])) a_nil)
      (by have h1 := List.length_filter_le (fun a => !decide (a = v)) f; have h2 := List.length_filter_le (fun b => !decide (b = -v)) s; rw [List.length_append]; omega) hk)
      (end_d (by unfold resolv; rw [if_pos (by revert hb; cases decide (v ∈ f) <;> cases decide (-v ∈ s) <;> simp)])))
abbrev pResolv : Sp := spP (T := List Int × List Int × Int) (fun p => [cD p.1, cD p.2.1, .int p.2.2]) (fun p => p.1.length + p.2.1.length < 64) (fun p => oD (resolv p.1 p.2.1 p.2.2))
theorem d_axiom (n : Nat) (cs : List (List Int)) (i : Nat) (hi : i < cs.length) [Fx X (defScope sP_axiom_clause) nP_axiom_clause k] [Fl X] (hk : 2 ≤ k) (h1 : Hs X "is_number" 2 pIsNumber) : DS X [.dat (fD n cs), .dat (sD (.ax i))] (defBody sP_axiom_clause) (EndK ([fD n cs, sD (.ax i)].map .dat) (fun d => d = cD cs[i])) :=
  s_ifR (t_w (w_or (t_ne (e_lenT (e_v 1 rfl rfl)) e_int) fun _ => w_or (t_not (t_val (e_call h1 i (a_d (e_ixT (e_v 1 rfl rfl) e_int rfl) a_nil) trivial hk))) fun _ => w_1o (t_ge (e_ixT (e_v 1 rfl rfl) e_int rfl) (e_lenT (e_ixT (e_v 0 rfl rfl) e_int rfl)))))
    (fun hb => by exfalso; revert hb; simp [hi])
    (fun hb => s_ret (e_ixT (e_ixT (e_v 0 rfl rfl) e_int rfl) (e_ixT (e_v 1 rfl rfl) e_int rfl) (by rw [atI_map, atI_nn (List.getElem?_eq_getElem hi)]; rfl)) (end_d rfl))
end
end Rb
/-! renaming, sides -/
namespace Rb
open PySem PySem.Spec L2
section
variable {X : Cx} {ρ : List Sl} {sc : Scope} {N : List Str} {k : Nat} {a b c e tg elt : Expr} {rest : List Expr} {sts body els : List Stmt} {pos p p1 : Pos} {P : Out → Prop} {d : PyData} {i : Int}
/-- what is still to do behind the statements of a branch -/
def Nx (X : Cx) (sts : List Stmt) (P : Out → Prop) : Out → Prop
  | .nx ρ' => DS X ρ' sts P
  | .ro P' ρ' => P (.ro P' ρ')
  | .rt d ρ' => P (.rt d ρ')
theorem s_ifT (hc : DT X ρ c true) (ha : DS X ρ body (Nx X sts P)) : DS X ρ (.If c body els pos :: sts) P :=
  s_if (Pm := Nx X sts P) hc (fun _ => ha) (fun h => by cases h) (fun ρ' h => h) (fun d ρ' h => h)
theorem s_ifF (hc : DT X ρ c false) (hb : DS X ρ els (Nx X sts P)) : DS X ρ (.If c body els pos :: sts) P :=
  s_if (Pm := Nx X sts P) hc (fun h => by cases h) (fun _ => hb) (fun ρ' h => h) (fun d ρ' h => h)
theorem s_ifF0 (hc : DT X ρ c false) (hb : DS X ρ sts P) : DS X ρ (.If c body [] pos :: sts) P := s_ifF hc (s_nil hb)
theorem s_ifTR (hc : DT X ρ c true) (ha : DS X ρ body (Rt P)) : DS X ρ (.If c body els pos :: sts) P :=
  s_ifT hc (DS.imp ha fun o h => by cases o with | nx _ => exact h.elim | rt d ρ' => exact h | ro P' ρ' => exact h)
theorem t_T {bb : Bool} (h : DT X ρ c bb) (e : bb = true) : DT X ρ c true := h.to e
theorem t_F {bb : Bool} (h : DT X ρ c bb) (e : bb = false) : DT X ρ c false := h.to e
end
/-! ### names -/
def nameOf (ns : List Int) (l : Int) : Int := if 0 < l then (atI ns (l - 1)).getD 0 else -(atI ns (-l - 1)).getD 0
def renC (ns : List Int) (c : List Int) : List Int := sortI (c.map (nameOf ns))
def nD (b : Bool) (ns : List Int) : PyData := if b then .tuple (ns.map .int) else .list (ns.map .int)
def NamesOk (ns : List Int) (l : Int) : Prop := l ≠ 0 ∧ -(ns.length : Int) ≤ l ∧ l ≤ ns.length
theorem atI_lt {α : Type} {xs : List α} {i : Int} (h0 : 0 ≤ i) (h1 : i < xs.length) : ∃ x, atI xs i = some x := by
  obtain ⟨n, rfl⟩ := Int.eq_ofNat_of_zero_le h0
  exact ⟨xs[n]'(by omega), atI_nn (List.getElem?_eq_getElem (by omega))⟩
section
variable {X : Cx} {ρ : List Sl} {sc : Scope} {N : List Str} {k : Nat} {a b c e tg elt : Expr} {pos p p1 : Pos}
theorem e_ixN {w : Bool} {ns : List Int} {i : Int} (ha : DE X ρ a (nD w ns)) (hb : DE X ρ b (.int i)) (h : ∃ x, atI ns i = some x) (hs : PlainIx b := by exact fun _ _ => rfl) : DE X ρ (.Subscript a b pos) (.int ((atI ns i).getD 0)) := by
  obtain ⟨x, hx⟩ := h
  have e : atI (ns.map PyData.int) i = some (.int ((atI ns i).getD 0)) := by rw [atI_map, hx]; rfl
  cases w with
  | true => exact e_ixT ha hb e hs
  | false => exact e_ixL ha hb e hs
end
section
variable {X : Cx} {k : Nat}
theorem d_renC (w : Bool) (c ns : List Int) (h : ∀ l ∈ c, NamesOk ns l) [Fx X (defScope sP_renamed_clause) nP_renamed_clause k] [Fl X] : DS X [.dat (cD c), .dat (nD w ns), .any] (defBody sP_renamed_clause) (EndK ([cD c, nD w ns].map .dat) (fun d => d = cD (renC ns c))) :=
  s_ret (e_tupL (e_sortI (ns := c.map (nameOf ns)) (DE.to (e_lc0 (enc := .int) (xs := c) (g := fun l => .int (nameOf ns l)) 2 (i_T (e_v 0 rfl rfl)) rfl
    (fun s H C cl fp y fx' hy => DE.to (e_if (t_gt (e_v 2 rfl rfl) e_int)
      (fun h' => e_ixN (w := w) (ns := ns) (e_v 1 rfl rfl) (e_sub (e_v 2 rfl rfl) e_int) (by have := h y hy; unfold NamesOk at this; have h2 := of_decide_eq_true h'; exact atI_lt (by omega) (by omega)))
      (fun h' => e_neg (e_ixN (w := w) (ns := ns) (e_v 1 rfl rfl) (e_sub (e_neg (e_v 2 rfl rfl)) e_int) (by have := h y hy; unfold NamesOk at this; have h2 := of_decide_eq_false h'; exact atI_lt (by omega) (by omega)))))
      (by unfold nameOf; by_cases q : 0 < y <;> simp [q]))) (by rw [List.map_map]; rfl)))) (end_d rfl)
abbrev pRenC : Sp := spP (T := Bool × List Int × List Int) (fun p => [cD p.2.1, nD p.1 p.2.2]) (fun p => ∀ l ∈ p.2.1, NamesOk p.2.2 l) (fun p => cD (renC p.2.2 p.2.1))
def renF (ns : List Int) (cs : List (List Int)) : List (List Int) := sortC (cs.map (renC ns))
theorem d_renF (w : Bool) (n : Nat) (cs : List (List Int)) (ns : List Int) (h : ∀ c ∈ cs, ∀ l ∈ c, NamesOk ns l) [Fx X (defScope sP_renamed) nP_renamed k] [Fl X] (hk : 1 ≤ k) (h1 : Hs X "renamed_clause" 1 pRenC) : DS X [.dat (fD n cs), .dat (nD w ns), .any] (defBody sP_renamed) (EndK ([fD n cs, nD w ns].map .dat) (fun d => d = fD n (renF ns cs))) :=
  s_ret (e_tup (ds := [_, _]) (a_d (e_ixT (e_v 0 rfl rfl) e_int rfl) (a_d (e_tupL (e_sortC (cs := cs.map (renC ns)) (DE.to (e_lc0 (enc := cD) (xs := cs) (g := fun c => cD (renC ns c)) 2 (i_T (e_ixT (e_v 0 rfl rfl) e_int rfl)) rfl
    (fun s H C cl fp y fx' hy => e_cb h1 (w, y, ns) (a_d (e_v 2 rfl rfl) (a_d (e_v 1 rfl rfl) a_nil)) (h y hy) hk)) (by rw [List.map_map]; rfl)))) a_nil))) (end_d rfl)
abbrev pRenF : Sp := spP (T := Bool × Nat × List (List Int) × List Int) (fun p => [fD p.2.1 p.2.2.1, nD p.1 p.2.2.2]) (fun p => ∀ c ∈ p.2.2.1, ∀ l ∈ c, NamesOk p.2.2.2 l) (fun p => fD p.2.1 (renF p.2.2.2 p.2.2.1))
/-! ### variables, sides -/
def absI (i : Int) : Int := if i < 0 then -i else i
def vars (cs : List (List Int)) : List Int := ssI (cs.flatMap fun c => c.map absI)
def Cl (n : Nat) (c : List Int) : Prop := c.Pairwise (· < ·) ∧ (∀ l ∈ c, l ≠ 0 ∧ -(n : Int) ≤ l ∧ l ≤ n) ∧ ∀ l ∈ c, -l ∉ c
def Fm (n : Nat) (cs : List (List Int)) : Prop := n ≤ 4 ∧ cs.length ≤ 40 ∧ ∀ c ∈ cs, Cl n c
theorem len_of_range : ∀ (c : List Int) (lo : Int) (m : Nat), c.Pairwise (· < ·) → (∀ l ∈ c, lo ≤ l ∧ l < lo + m) → c.length ≤ m
  | [], _, _, _, _ => Nat.zero_le _
  | x :: c, lo, m, hs, h => by
    have hx := h x List.mem_cons_self
    rw [List.pairwise_cons] at hs
    have := len_of_range c (x + 1) (lo + m - (x + 1)).toNat hs.2 fun l hl => by
      have h1 := hs.1 l hl
      have h2 := h l (List.mem_cons_of_mem _ hl)
      omega
    rw [List.length_cons]
    omega
theorem Cl.len {n : Nat} {c : List Int} (h : Cl n c) : c.length ≤ 2 * n + 1 := len_of_range c (-(n : Int)) _ h.1 fun l hl => by have := h.2.1 l hl; omega
theorem nodup_range : ∀ (xs : List Int) (m : Nat), xs.Nodup → (∀ l ∈ xs, 0 ≤ l ∧ l < m) → xs.length ≤ m := fun xs m h1 h2 => by
  have hp := sortI_perm xs
  rw [← hp.length_eq]
  refine len_of_range _ 0 m ?_ fun l hl => by have := h2 l (hp.mem_iff.mp hl); omega
  have h3 := sortI_pw xs
  have h4 : (sortI xs).Nodup := hp.nodup_iff.mpr h1
  refine (h3.and h4).imp fun {a b} h => ?_
  have e1 := h.1; have e2 := h.2
  omega
theorem absI_pos {i : Int} : 0 ≤ absI i := by unfold absI; split <;> omega
theorem Fm.few {n : Nat} {cs : List (List Int)} (h : Fm n cs) : (cs.flatMap fun c => c.map absI).length < 400 ∧ (cs.flatMap fun c => c.map absI).eraseDups.length < 64 := by
  obtain ⟨h1, h2, h3⟩ := h
  constructor
  · have aux : ∀ ds : List (List Int), (∀ c ∈ ds, Cl n c) → (ds.flatMap fun c => c.map absI).length ≤ ds.length * 9 := by
      intro ds
      induction ds with
      | nil => intro _; simp
      | cons c ds ih =>
        intro h
        have e1 := (h c List.mem_cons_self).len
        have e2 := ih fun c hc => h c (List.mem_cons_of_mem _ hc)
        rw [List.flatMap_cons, List.length_append, List.length_map, List.length_cons]
        omega
    have := aux cs h3
    omega
  · refine Nat.lt_of_le_of_lt (nodup_range _ 5 (eraseDups_nodup _) fun l hl => ?_) (by decide)
    rw [List.mem_eraseDups, List.mem_flatMap] at hl
    obtain ⟨c, hc, hl⟩ := hl
    obtain ⟨i, hi, rfl⟩ := List.mem_map.mp hl
    have := (h3 c hc).2.1 i hi
    refine ⟨absI_pos, ?_⟩
    unfold absI
    split <;> omega
theorem Fm.sub {n : Nat} {cs ds : List (List Int)} (h : Fm n cs) (hl : ds.length ≤ cs.length) (hs : ∀ c ∈ ds, c ∈ cs) : Fm n ds := ⟨h.1, Nat.le_trans hl h.2.1, fun c hc => h.2.2 c (hs c hc)⟩
theorem d_vars (n : Nat) (cs : List (List Int)) (h : Fm n cs) [Fx X (defScope sP_variables_of) nP_variables_of k] [Fl X] : DS X [.dat (fD n cs), .any, .any] (defBody sP_variables_of) (EndK ([fD n cs].map .dat) (fun d => d = .list ((vars cs).map .int))) :=
  s_ret (e_ssI' (ns := cs.flatMap fun c => c.map absI) (DE.to (e_lc2 (enc := cD) (enc1 := .int) (xs := cs) (f := fun c => c) (g := fun _ l => .int (absI l)) 1 2 (i_T (e_ixT (e_v 0 rfl rfl) e_int rfl)) rfl rfl
    (fun s H C cl fp u fx' hu => i_T (e_v 1 rfl rfl)) (fun s H C cl fp u v fx' hu hv => e_abs (e_v 2 rfl rfl))
    (by have := h.few.1; have e : (cs.flatMap fun c => c).length = (cs.flatMap fun c => c.map absI).length := by simp [List.length_flatMap]
        rw [e, sizeLine_eq]; omega))
    (by rw [List.map_flatMap]; simp [Function.comp_def])) h.few.1 h.few.2) (end_d rfl)
abbrev pVars : Sp := spP (T := Nat × List (List Int)) (fun p => [fD p.1 p.2]) (fun p => Fm p.1 p.2) (fun p => .list ((vars p.2).map .int))
def sideC (cs : List (List Int)) (div : List Int) (s : Int) : List (List Int) := (cs.zipIdx.filter fun p => decide (decide ((p.2 : Int) ∈ div) = decide (s = 1))).map (·.1)
end
end Rb
/-! sides, common variables, gates, values -/
namespace Rb
open PySem PySem.Spec L2
def common (cs : List (List Int)) (div : List Int) : List Int := (vars (sideC cs div 1)).filter fun v => decide (v ∈ vars (sideC cs div 2))
def rising (cs : List (List Int)) (div : List Int) : Bool := (sideC cs div 1).all fun c => (c.filter fun l => decide (-l ∈ common cs div)).isEmpty
theorem side_sub {cs : List (List Int)} {div : List Int} {s : Int} : ∀ c ∈ sideC cs div s, c ∈ cs := fun c hc => by
  obtain ⟨p, hp, rfl⟩ := List.mem_map.mp hc
  rw [(List.mem_zipIdx (List.mem_filter.mp hp).1).2.2]; exact List.getElem_mem _
theorem side_len {cs : List (List Int)} {div : List Int} {s : Int} : (sideC cs div s).length ≤ cs.length := by
  unfold sideC
  rw [List.length_map]
  exact Nat.le_trans (List.length_filter_le _ _) (by rw [List.length_zipIdx]; exact Nat.le_refl _)
theorem Fm.side {n : Nat} {cs : List (List Int)} {div : List Int} {s : Int} (h : Fm n cs) : Fm n (sideC cs div s) := h.sub side_len side_sub
section
variable {X : Cx} {ρ : List Sl} {sc : Scope} {N : List Str} {k : Nat} {a b c e tg elt : Expr} {pos p p1 p2 p3 : Pos} {x y : Str}
/-- [elt for k, x in enumerate(xs) if ..] -/
theorem l_lcE [fx : Fx X sc N k] {scope : Scope} {ifs : List Expr} {kk : Nat} {α : Type} {enc : α → PyData} {xs : List α} {f : Nat → α → Bool} {g : Nat → α → PyData} (n m : Nat) (hi : DI X ρ (.Tuple [.Name x p1, .Name y p2] kk p3) e (fun ds => ds = enumD (xs.map enc))) (hN : N[n]? = some x) (hM : N[m]? = some y)
    (ht : ∀ s H C cl fp (j : Nat) (u : α), Fx (Bk X s H scope C cl fp) (relS scope sc) N k → xs[j]? = some u → DTs (Bk X s H scope C cl fp) (((slWp ρ [n, m]).set n (.dat (.int (j : Nat)))).set m (.dat (enc u))) ifs (fun b => b = f j u))
    (he : ∀ s H C cl fp (j : Nat) (u : α), Fx (Bk X s H scope C cl fp) (relS scope sc) N k → xs[j]? = some u → f j u = true → DE (Bk X s H scope C cl fp) (((slWp ρ [n, m]).set n (.dat (.int (j : Nat)))).set m (.dat (enc u))) elt (g j u))
    (ok : blkC N sc scope [(x, n), (y, m)] = true := by decide +kernel) (hpl : plainAt ρ [n, m] = true := by rfl) (hl : tgB sc scope x = true := by decide +kernel) (hl1 : tgB sc scope y = true := by decide +kernel) :
    LcOk X ρ elt (.Tuple [.Name x p1, .Name y p2] kk p3) e ifs scope (fun z => z = .list ((xs.zipIdx.filter fun p => f p.2 p.1).map fun p => g p.2 p.1)) := by
  have hk := kind_of ok
  have key : ∀ (j : Nat) (d : PyData) (ds : List PyData), ds = enumD (xs.map enc) → ds[j]? = some d → ∃ u, xs[j]? = some u ∧ d = .tuple [.int (j : Nat), enc u] := fun j d ds h1 h2 => by
    have hj : j < ds.length := (List.getElem?_eq_some_iff.mp h2).1
    have hl : ds.length = xs.length := by rw [h1]; unfold enumD; simp
    have hx : xs[j]? = some (xs[j]'(by omega)) := List.getElem?_eq_getElem (by omega)
    have h3 := enumD_get (ds := xs.map enc) (i := j) (by rw [List.getElem?_map, hx]; rfl)
    rw [h1, h3] at h2
    exact ⟨_, hx, (Option.some.inj h2).symm⟩
  refine LcOk.imp (lc_core (Pt := fun j d b => ∃ u, xs[j]? = some u ∧ d = .tuple [.int (j : Nat), enc u] ∧ b = f j u) (Pe := fun j d z => ∃ u, xs[j]? = some u ∧ d = .tuple [.int (j : Nat), enc u] ∧ z = g j u) [(x, n), (y, m)] hi (tg_2 (K := X.K) (n := n) (m := m) (by simp) (by simp)) (fun ds h d hd => ?_)
    (fun s H C cl fp => ?_) (fun s H C cl fp j d ds fx' h1 h2 => ?_) (fun s H C cl fp j d ds fx' h1 h2 h3 => ?_) ok hpl) ?_
  · obtain ⟨j, hj, e⟩ := List.getElem_of_mem hd
    obtain ⟨u, _, q⟩ := key j d ds h (by rw [List.getElem?_eq_getElem hj, e])
    exact ⟨_, _, q⟩
  · exact pg_tup (n := 2) fx.calm (pgs_cons (pg_blk hk hN hl s H C cl fp) (pgs_cons (pg_blk hk hM hl1 s H C cl fp) pgs_nil)) rfl rfl
  · obtain ⟨u, h4, rfl⟩ := key j d ds h1 h2
    have q := ht s H C cl fp j u fx' h4
    exact ⟨⟨fun pins s' σ H' Q I ⟨F0, H0, F, g', r, k'⟩ => q.ok.run pins s' σ H' Q I ⟨F0, H0, F, g', r, fun b F1 H1 pb => k' b F1 H1 ⟨u, h4, rfl, pb⟩⟩⟩⟩
  · obtain ⟨u, h4, h5, h6⟩ := h3
    subst h5
    exact DP.imp (he s H C cl fp j u fx' h4 h6.symm) fun z hz => ⟨u, h4, rfl, hz⟩
  · rintro z ⟨ds', es', rfl, h1, h2⟩
    have e1 : ds' = xs.zipIdx.map fun p => .tuple [.int (p.2 : Nat), enc p.1] := by
      rw [h1]; unfold enumD
      rw [List.zipIdx_map, List.map_map]
      rfl
    rw [Comp.fn (xs0 := xs.zipIdx) (zs := []) (f := fun p => f p.2 p.1) (g := fun p => g p.2 p.1) (enc := fun p : α × Nat => .tuple [.int (p.2 : Nat), enc p.1]) ?_ ?_ h2 e1 (by simp)]
    · rintro j ⟨u, i⟩ b h3 ⟨u', h4, h5, h6⟩
      rw [List.getElem?_zipIdx, h4] at h3
      simp at h3
      obtain ⟨rfl, rfl⟩ := h3
      exact h6
    · rintro j ⟨u, i⟩ w h3 _ ⟨u', h4, h5, h6⟩
      rw [List.getElem?_zipIdx, h4] at h3
      simp at h3
      obtain ⟨rfl, rfl⟩ := h3
      exact h6
end
section
variable {X : Cx} {k : Nat}
theorem d_side (n : Nat) (cs : List (List Int)) (div : List Int) (s : Int) [Fx X (defScope sP_side_formula) nP_side_formula k] [Fl X] : DS X [.dat (fD n cs), .dat (cD div), .dat (.int s), .any, .any, .any, .any] (defBody sP_side_formula) (EndK ([fD n cs, cD div, .int s].map .dat) (fun d => d = fD n (sideC cs div s))) :=
  s_unp2 3 4 rfl rfl (e_v 0 rfl rfl) (s_ret (e_tup (ds := [.int n, .tuple ((sideC cs div s).map cD)]) (a_d (e_v 3 rfl rfl) (a_d (e_tupL (DE.to (e_lcK (l_lcE (enc := cD) (xs := cs) (f := fun j _ => decide (decide ((j : Int) ∈ div) = decide (s = 1))) (g := fun _ c => cD c) 5 6 (i_enT (e_v 4 rfl rfl)) rfl rfl
    (fun s' H C cl fp j u fx' hu => ts_1 (t_eqB (e_inT (e_v 5 rfl rfl) (e_v 1 rfl rfl)) (e_eq (e_v 2 rfl rfl) e_int)))
    (fun s' H C cl fp j u fx' hu hf => e_v 6 rfl rfl)))
    (by unfold sideC; rw [List.map_map]; rfl))) a_nil))) (end_d rfl))
abbrev pSide : Sp := spP (T := Nat × List (List Int) × List Int × Int) (fun p => [fD p.1 p.2.1, cD p.2.2.1, .int p.2.2.2]) (fun _ => True) (fun p => fD p.1 (sideC p.2.1 p.2.2.1 p.2.2.2))
end
end Rb
/-! common variables, rising, gates, steps -/
namespace Rb
open PySem PySem.Spec L2
inductive Gt where
  | ff
  | tt
  | same (a : Nat)
  | choose (v a b : Nat)
  | need (v a b : Nat)
  | and (a b : Nat)
  | or (a b : Nat)
def gD : Gt → PyData
  | .ff => .tuple [.str "false"]
  | .tt => .tuple [.str "true"]
  | .same a => .tuple [.str "same", .int a]
  | .choose v a b => .tuple [.str "choose", .int v, .int a, .int b]
  | .need v a b => .tuple [.str "need", .int v, .int a, .int b]
  | .and a b => .tuple [.str "and", .int a, .int b]
  | .or a b => .tuple [.str "or", .int a, .int b]
def needG : Gt → Gt
  | .choose v a b => .need v a b
  | g => g
def gval (f : List Bool) (cube : List Int) : Gt → Bool
  | .ff => false
  | .tt => true
  | .same a => f.getD a false
  | .or a b => f.getD a false || f.getD b false
  | .and a b => f.getD a false && f.getD b false
  | .need v a b => f.getD b false && (decide ((v : Int) ∈ cube) || f.getD a false)
  | .choose v a b => if decide ((v : Int) ∈ cube) then f.getD b false else f.getD a false
def GtOk (m : Nat) : Gt → Prop
  | .ff => True
  | .tt => True
  | .same a => a < m
  | .or a b => a < m ∧ b < m
  | .and a b => a < m ∧ b < m
  | .need _ a b => a < m ∧ b < m
  | .choose _ a b => a < m ∧ b < m
def gvals (cube : List Int) (gs : List Gt) : List Bool := gs.foldl (fun f g => f ++ [gval f cube g]) []
theorem gvals_app (cube : List Int) (gs : List Gt) (g : Gt) : gvals cube (gs ++ [g]) = gvals cube gs ++ [gval (gvals cube gs) cube g] := by unfold gvals; rw [List.foldl_append]; rfl
theorem gvals_len (cube : List Int) (gs : List Gt) : (gvals cube gs).length = gs.length := by
  have aux : ∀ (gs : List Gt) (f : List Bool), (gs.foldl (fun f g => f ++ [gval f cube g]) f).length = f.length + gs.length := by
    intro gs
    induction gs with
    | nil => intro f; rfl
    | cons g gs ih => intro f; rw [List.foldl_cons, ih, List.length_append, List.length_cons]; simp; omega
  have := aux gs []
  simpa [gvals] using this
theorem atB {f : List Bool} {a : Nat} (h : a < f.length) : atI (f.map PyData.bool) (a : Int) = some (.bool (f.getD a false)) := by
  rw [atI_map, atI_nn (List.getElem?_eq_getElem h)]
  simp [List.getD_eq_getElem?_getD, List.getElem?_eq_getElem h]
section
variable {X : Cx} {ρ : List Sl} {a b c : Expr} {pos : Pos} {d : PyData} {P : PyData → Prop}
theorem e_ifT (hc : DT X ρ c true) (ha : DP X ρ a P) : DP X ρ (.IfExp c a b pos) P := e_ifP hc (fun _ => ha) (fun h => by cases h)
theorem e_ifF (hc : DT X ρ c false) (hb : DP X ρ b P) : DP X ρ (.IfExp c a b pos) P := e_ifP hc (fun h => by cases h) (fun _ => hb)
end
section
variable {X : Cx} {k : Nat}
theorem d_common (n : Nat) (cs : List (List Int)) (div : List Int) (h : Fm n cs) [Fx X (defScope sP_common_variables) nP_common_variables k] [Fl X] (hk : 1 ≤ k) (h1 : Hs X "side_formula" 1 pSide) (h2 : Hs X "variables_of" 1 pVars) :
    DS X [.dat (fD n cs), .dat (cD div), .any, .any] (defBody sP_common_variables) (EndK ([fD n cs, cD div].map .dat) (fun d => d = .list ((common cs div).map .int))) :=
  s_asg 2 rfl (e_call h2 (n, sideC cs div 2) (a_d (e_call h1 (n, cs, div, 2) (a_d (e_v 0 rfl rfl) (a_d (e_v 1 rfl rfl) (a_d e_int a_nil))) trivial hk) a_nil) h.side hk)
    (s_ret (e_lc (enc := .int) (xs := vars (sideC cs div 1)) (f := fun v => decide (v ∈ vars (sideC cs div 2))) (g := PyData.int) 3 (i_L (e_call h2 (n, sideC cs div 1) (a_d (e_call h1 (n, cs, div, 1) (a_d (e_v 0 rfl rfl) (a_d (e_v 1 rfl rfl) (a_d e_int a_nil))) trivial hk) a_nil) h.side hk)) rfl
      (fun s H C cl fp y fx' hy => ts_1 (t_inL (e_v 3 rfl rfl) (e_v 2 rfl rfl))) (fun s H C cl fp y fx' hy hf => e_v 3 rfl rfl)) (end_d rfl))
abbrev pCommon : Sp := spP (T := Nat × List (List Int) × List Int) (fun p => [fD p.1 p.2.1, cD p.2.2]) (fun p => Fm p.1 p.2.1) (fun p => .list ((common p.2.1 p.2.2).map .int))
theorem d_rising (n : Nat) (cs : List (List Int)) (div : List Int) (h : Fm n cs) [Fx X (defScope sP_is_rising) nP_is_rising k] [Fl X] (hk : 2 ≤ k) (h1 : Hs X "side_formula" 1 pSide) (h2 : Hs X "common_variables" 2 pCommon) :
    DS X [.dat (fD n cs), .dat (cD div), .any, .any, .any] (defBody sP_is_rising) (EndK ([fD n cs, cD div].map .dat) (fun d => d = .bool (rising cs div))) := by
  refine s_asg 2 rfl (e_call h2 (n, cs, div) (a_d (e_v 0 rfl rfl) (a_d (e_v 1 rfl rfl) a_nil)) h hk) (s_forN 3 rfl (i_T (e_ixT (e_call h1 (n, cs, div, 1) (a_d (e_v 0 rfl rfl) (a_d (e_v 1 rfl rfl) (a_d e_int a_nil))) trivial (by omega)) e_int rfl))
    (fun ds m ρ' => (∃ s, ρ' = [.dat (fD n cs), .dat (cD div), .dat (.list ((common cs div).map .int)), s, .any]) ∧ ∀ c ∈ (sideC cs div 1).take m, (c.filter fun l => decide (-l ∈ common cs div)).isEmpty = true) (fun ds hd => ⟨⟨_, rfl⟩, fun c hc => by cases hc⟩) ?_ ?_)
  · rintro ds m d ρ' rfl hd ⟨⟨s, rfl⟩, hall⟩
    rw [List.getElem?_map] at hd
    cases hc : (sideC cs div 1)[m]? with
    | none => rw [hc] at hd; cases hd
    | some c =>
      rw [hc] at hd
      cases hd
      refine s_ifR (t_L (e_lc (enc := .int) (xs := c) (f := fun l => decide (-l ∈ common cs div)) (g := PyData.int) 4 (i_T (e_v 3 rfl rfl)) rfl
        (fun s H C cl fp y fx' hy => ts_1 (t_inL (e_neg (e_v 4 rfl rfl)) (e_v 2 rfl rfl))) (fun s H C cl fp y fx' hy hf => e_v 4 rfl rfl)))
        (fun hb => s_ret e_bl (end_d ?_)) (fun hb => s_nil ⟨⟨_, rfl⟩, fun c' hc' => ?_⟩)
      · have hn : rising cs div = false := by
          unfold rising
          rw [List.all_eq_false]
          exact ⟨c, List.mem_of_getElem? hc, by simp only [List.isEmpty_map] at hb; simpa using hb⟩
        rw [hn]
      · rw [List.take_add_one, hc] at hc'
        rcases List.mem_append.mp hc' with h' | h'
        · exact hall c' h'
        · simp at h'
          subst h'
          simp only [List.isEmpty_map] at hb
          simpa using hb
  · rintro ds ρ' rfl ⟨⟨s, rfl⟩, hall⟩
    refine s_ret e_bl (end_d ?_)
    have hn : rising cs div = true := by
      unfold rising
      rw [List.all_eq_true]
      intro c hc
      exact hall c (by rw [List.length_map, List.take_length]; exact hc)
    rw [hn]
abbrev pRising : Sp := spP (T := Nat × List (List Int) × List Int) (fun p => [fD p.1 p.2.1, cD p.2.2]) (fun p => Fm p.1 p.2.1) (fun p => .bool (rising p.2.1 p.2.2))
theorem d_gate (g : Gt) [Fx X (defScope sP_rising_gate) nP_rising_gate k] [Fl X] : DS X [.dat (gD g)] (defBody sP_rising_gate) (EndK ([gD g].map .dat) (fun d => d = gD (needG g))) := by
  cases g with
  | choose v a b => exact s_ret (e_ifT (t_T (t_eqS (e_ixT (e_v 0 rfl rfl) e_int rfl) e_str) (by decide +kernel)) (e_tup (ds := [.str "need", .int v, .int a, .int b]) (a_d e_str (a_star (e_slT (n := 1) (ds := [.str "choose", .int v, .int a, .int b]) (e_v 0 rfl rfl) e_int (by decide) (Nat.zero_lt_succ _)) a_nil)))) (end_d rfl)
  | _ => exact s_ret (e_ifF (t_F (t_eqS (e_ixT (e_v 0 rfl rfl) e_int rfl) e_str) (by decide +kernel)) (e_v 0 rfl rfl)) (end_d rfl)
abbrev pGate : Sp := spP (T := Gt) (fun g => [gD g]) (fun _ => True) (fun g => gD (needG g))
end
end Rb
/-! values, steps, renamed steps -/
namespace Rb
open PySem PySem.Spec L2
def GsOk (gs : List Gt) : Prop := ∀ i g, gs[i]? = some g → GtOk i g ∧ ∀ v a b, g ≠ .choose v a b
section
variable {X : Cx} {k : Nat}
theorem d_values (gs : List Gt) (cube : List Int) (h : GsOk gs) (hz : gs.length ≤ 1000) [Fx X (defScope sP_rising_values) nP_rising_values k] [Fl X] :
    DS X [.dat (.tuple (gs.map gD)), .dat (cD cube), .any, .any] (defBody sP_rising_values) (EndK ([.tuple (gs.map gD), cD cube].map .dat) (fun d => d = .list ((gvals cube gs).map .bool))) := by
  refine s_new 2 rfl fun A => s_forN 3 rfl (i_T (e_v 0 rfl rfl)) (fun ds m ρ' => ∃ s, ρ' = [.dat (.tuple (gs.map gD)), .dat (cD cube), .own A (fun y => y = (gvals cube (gs.take m)).map .bool), s]) (fun ds hd => ⟨.any, rfl⟩) ?_ ?_
  · rintro ds m d ρ' rfl hd ⟨s, rfl⟩
    rw [List.getElem?_map] at hd
    cases hg : gs[m]? with
    | none => rw [hg] at hd; cases hd
    | some g =>
      rw [hg] at hd
      cases hd
      have hok := (h m g hg).1
      have hm : m < gs.length := (List.getElem?_eq_some_iff.mp hg).1
      have hl : (gvals cube (gs.take m)).length = m := by rw [gvals_len, List.length_take]; omega
      have ha : gvals cube (gs.take (m + 1)) = gvals cube (gs.take m) ++ [gval (gvals cube (gs.take m)) cube g] := by rw [List.take_add_one, hg]; exact gvals_app _ _ _
      have hz2 : ((gvals cube (gs.take m)).map PyData.bool).length < sizeLine := by rw [List.length_map, hl, sizeLine_eq]; omega
      have fin : ∀ {b : Bool} {t : Sl}, b = gval (gvals cube (gs.take m)) cube g → ∃ s, [Sl.dat (.tuple (gs.map gD)), .dat (cD cube), .own A (fun y : List PyData => y = (gvals cube (gs.take m)).map PyData.bool ++ [.bool b]), t] = [.dat (.tuple (gs.map gD)), .dat (cD cube), .own A (fun y => y = (gvals cube (gs.take (m + 1))).map PyData.bool), s] := fun {b t} hb => ⟨t, by rw [ha, hb, List.map_append]; rfl⟩
      generalize hfv : gvals cube (gs.take m) = fv at *
      cases g with
      | ff => exact s_ifT (t_T (t_or (t_eqS (e_ixT (e_v 3 rfl rfl) e_int rfl) e_str) (fun _ => t_eqS (e_ixT (e_v 3 rfl rfl) e_int rfl) e_str)) (by decide +kernel)) (s_app 2 rfl rfl (e_eqS (e_ixT (e_v 3 rfl rfl) e_int rfl) e_str) hz2 (s_nil (s_nil (fin (by simp only [gval]; decide +kernel)))))
      | tt => exact s_ifT (t_T (t_or (t_eqS (e_ixT (e_v 3 rfl rfl) e_int rfl) e_str) (fun _ => t_eqS (e_ixT (e_v 3 rfl rfl) e_int rfl) e_str)) (by decide +kernel)) (s_app 2 rfl rfl (e_eqS (e_ixT (e_v 3 rfl rfl) e_int rfl) e_str) hz2 (s_nil (s_nil (fin (by simp only [gval]; decide +kernel)))))
      | same a => exact s_ifF (t_F (t_or (t_eqS (e_ixT (e_v 3 rfl rfl) e_int rfl) e_str) (fun _ => t_eqS (e_ixT (e_v 3 rfl rfl) e_int rfl) e_str)) (by decide +kernel)) (s_ifT (t_T (t_eqS (e_ixT (e_v 3 rfl rfl) e_int rfl) e_str) (by decide +kernel))
          (s_app 2 rfl rfl (e_ixO 2 rfl rfl (e_ixT (e_v 3 rfl rfl) e_int rfl) (atB (by rw [hl]; exact hok))) hz2 (s_nil (s_nil (s_nil (fin rfl))))))
      | or a b => exact s_ifF (t_F (t_or (t_eqS (e_ixT (e_v 3 rfl rfl) e_int rfl) e_str) (fun _ => t_eqS (e_ixT (e_v 3 rfl rfl) e_int rfl) e_str)) (by decide +kernel)) (s_ifF (t_F (t_eqS (e_ixT (e_v 3 rfl rfl) e_int rfl) e_str) (by decide +kernel)) (s_ifT (t_T (t_eqS (e_ixT (e_v 3 rfl rfl) e_int rfl) e_str) (by decide +kernel))
          (s_app 2 rfl rfl (e_or (e_ixO 2 rfl rfl (e_ixT (e_v 3 rfl rfl) e_int rfl) (atB (by rw [hl]; exact hok.1))) (fun _ => e_1 (e_ixO 2 rfl rfl (e_ixT (e_v 3 rfl rfl) e_int rfl) (atB (by rw [hl]; exact hok.2))))) hz2 (s_nil (s_nil (s_nil (s_nil (fin rfl))))))))
      | and a b => exact s_ifF (t_F (t_or (t_eqS (e_ixT (e_v 3 rfl rfl) e_int rfl) e_str) (fun _ => t_eqS (e_ixT (e_v 3 rfl rfl) e_int rfl) e_str)) (by decide +kernel)) (s_ifF (t_F (t_eqS (e_ixT (e_v 3 rfl rfl) e_int rfl) e_str) (by decide +kernel)) (s_ifF (t_F (t_eqS (e_ixT (e_v 3 rfl rfl) e_int rfl) e_str) (by decide +kernel)) (s_ifT (t_T (t_eqS (e_ixT (e_v 3 rfl rfl) e_int rfl) e_str) (by decide +kernel))
          (s_app 2 rfl rfl (e_and (e_ixO 2 rfl rfl (e_ixT (e_v 3 rfl rfl) e_int rfl) (atB (by rw [hl]; exact hok.1))) (fun _ => e_1 (e_ixO 2 rfl rfl (e_ixT (e_v 3 rfl rfl) e_int rfl) (atB (by rw [hl]; exact hok.2))))) hz2 (s_nil (s_nil (s_nil (s_nil (s_nil (fin rfl))))))))))
      | need v a b => exact s_ifF (t_F (t_or (t_eqS (e_ixT (e_v 3 rfl rfl) e_int rfl) e_str) (fun _ => t_eqS (e_ixT (e_v 3 rfl rfl) e_int rfl) e_str)) (by decide +kernel)) (s_ifF (t_F (t_eqS (e_ixT (e_v 3 rfl rfl) e_int rfl) e_str) (by decide +kernel)) (s_ifF (t_F (t_eqS (e_ixT (e_v 3 rfl rfl) e_int rfl) e_str) (by decide +kernel)) (s_ifF (t_F (t_eqS (e_ixT (e_v 3 rfl rfl) e_int rfl) e_str) (by decide +kernel))
          (s_app 2 rfl rfl (e_and (e_ixO 2 rfl rfl (e_ixT (e_v 3 rfl rfl) e_int rfl) (atB (by rw [hl]; exact hok.2))) (fun _ => e_1 (e_or (e_inT (e_ixT (e_v 3 rfl rfl) e_int rfl) (e_v 1 rfl rfl)) (fun _ => e_1 (e_ixO 2 rfl rfl (e_ixT (e_v 3 rfl rfl) e_int rfl) (atB (by rw [hl]; exact hok.1))))))) hz2 (s_nil (s_nil (s_nil (s_nil (s_nil (fin rfl))))))))))
      | choose v a b => exact absurd rfl ((h m _ hg).2 v a b)
  · rintro ds ρ' rfl ⟨s, rfl⟩
    rw [List.length_map, List.take_length]
    exact s_frz 2 rfl (s_ret (e_v 2 rfl rfl) (end_d rfl))
abbrev pValues : Sp := spP (T := List Gt × List Int) (fun p => [.tuple (p.1.map gD), cD p.2]) (fun p => GsOk p.1 ∧ p.1.length ≤ 1000) (fun p => .list ((gvals p.2 p.1).map .bool))
theorem d_value (gs : List Gt) (cube : List Int) (b : Bool) (h : GsOk gs) (hz : gs.length ≤ 1000) (hb : (gvals cube gs).getLast? = some b) [Fx X (defScope sP_rising_value) nP_rising_value k] [Fl X] (hk : 1 ≤ k) (h1 : Hs X "rising_values" 1 pValues) :
    DS X [.dat (.tuple (gs.map gD)), .dat (cD cube)] (defBody sP_rising_value) (EndK ([.tuple (gs.map gD), cD cube].map .dat) (fun d => d = .bool b)) :=
  s_ret (e_ixL (e_call h1 (gs, cube) (a_d (e_v 0 rfl rfl) (a_d (e_v 1 rfl rfl) a_nil)) ⟨h, hz⟩ hk) (e_neg e_int) (by
    have e : ((gvals cube gs).map PyData.bool).getLast? = some (.bool b) := by rw [List.getLast?_map, hb]; rfl
    exact atI_m1 e)) (end_d rfl)
abbrev pValue : Sp := spP (T := List Gt × List Int × Bool) (fun p => [.tuple (p.1.map gD), cD p.2.1]) (fun p => GsOk p.1 ∧ p.1.length ≤ 1000 ∧ (gvals p.2.1 p.1).getLast? = some p.2.2) (fun p => .bool p.2.2)
end
end Rb
/-! steps, renamed steps, the falling division -/
namespace Rb
open PySem PySem.Spec L2
def nextC (cs cls : List (List Int)) : Stp → Option (List Int)
  | .ax i => cs[i]?
  | .res a b v => resolv (cls.getD a []) (cls.getD b []) v
  | .wk _ _ => none
/-- a step that can be taken behind m others, in a formula of n variables and c clauses -/
def StOk (n c m : Nat) : Stp → Prop
  | .ax i => i < c
  | .res a b v => a < m ∧ b < m ∧ 1 ≤ v ∧ v ≤ n
  | .wk a cl => a < m ∧ Cl n cl
theorem getD_get {α : Type} {xs : List α} {i : Nat} {d : α} (h : i < xs.length) : xs.getD i d = xs[i] := by simp [List.getD_eq_getElem?_getD, List.getElem?_eq_getElem h]
theorem atC {cs : List (List Int)} {i : Nat} (h : i < cs.length) : atI (cs.map cD) (i : Int) = some (cD (cs.getD i [])) := by
  rw [atI_map, atI_nn (List.getElem?_eq_getElem h), getD_get h]; rfl
theorem and_T {a b : Bool} (h1 : a = true) (h2 : b = true) : (a && b) = true := by rw [h1, h2]; rfl
theorem and_F {a b : Bool} (h2 : b = false) : (a && b) = false := by rw [h2, Bool.and_false]
section
variable {X : Cx} {k : Nat}
theorem d_resolved (n : Nat) (cs cls : List (List Int)) (a b v : Nat) (ha : a < cls.length) (hb : b < cls.length) (hv : 1 ≤ v ∧ v ≤ n) (hz : (cls.getD a []).length + (cls.getD b []).length < 64) [Fx X (defScope sP_resolved_clause) nP_resolved_clause k] [Fl X] (hk : 3 ≤ k) (h1 : Hs X "is_earlier" 3 pIsEarlier) (h2 : Hs X "is_number" 2 pIsNumber) (h3 : Hs X "resolvent" 2 pResolv) :
    DS X [.dat (fD n cs), .dat (.list (cls.map cD)), .dat (sD (.res a b v))] (defBody sP_resolved_clause) (EndK ([fD n cs, .list (cls.map cD), sD (.res a b v)].map .dat) (fun d => d = oD (resolv (cls.getD a []) (cls.getD b []) v))) :=
  s_ifF0 (t_F (t_w (w_or (t_ne (e_lenT (e_v 2 rfl rfl)) e_int) fun _ => w_or (t_not (t_val (e_call h1 (a, cls.length) (a_d (e_ixT (e_v 2 rfl rfl) e_int rfl) (a_d (DE.to (e_lenL (e_v 1 rfl rfl)) (by rw [List.length_map])) a_nil)) trivial hk)))
      fun _ => w_1o (t_not (t_val (e_call h1 (b, cls.length) (a_d (e_ixT (e_v 2 rfl rfl) e_int rfl) (a_d (DE.to (e_lenL (e_v 1 rfl rfl)) (by rw [List.length_map])) a_nil)) trivial hk))))) (by simp [ha, hb]))
    (s_ifF0 (t_F (t_or (t_not (t_val (e_call h2 v (a_d (e_ixT (e_v 2 rfl rfl) e_int rfl) a_nil) trivial (by omega)))) fun _ => t_not (t_ltle e_int (e_ixT (e_v 2 rfl rfl) e_int rfl) (e_ixT (e_v 0 rfl rfl) e_int rfl))) (by simp; omega))
      (s_ret (e_call h3 (cls.getD a [], cls.getD b [], v) (a_d (e_ixL (e_v 1 rfl rfl) (e_ixT (e_v 2 rfl rfl) e_int rfl) (atC ha)) (a_d (e_ixL (e_v 1 rfl rfl) (e_ixT (e_v 2 rfl rfl) e_int rfl) (atC hb)) (a_d (e_ixT (e_v 2 rfl rfl) e_int rfl) a_nil))) hz (by omega)) (end_d rfl)))
abbrev pResolved : Sp := spP (T := Nat × List (List Int) × List (List Int) × Nat × Nat × Nat) (fun p => [fD p.1 p.2.1, .list (p.2.2.1.map cD), sD (.res p.2.2.2.1 p.2.2.2.2.1 p.2.2.2.2.2)])
  (fun p => p.2.2.2.1 < p.2.2.1.length ∧ p.2.2.2.2.1 < p.2.2.1.length ∧ (1 ≤ p.2.2.2.2.2 ∧ p.2.2.2.2.2 ≤ p.1) ∧ (p.2.2.1.getD p.2.2.2.1 []).length + (p.2.2.1.getD p.2.2.2.2.1 []).length < 64)
  (fun p => oD (resolv (p.2.2.1.getD p.2.2.2.1 []) (p.2.2.1.getD p.2.2.2.2.1 []) p.2.2.2.2.2))
abbrev pAxiom : Sp := spP (T := Nat × List (List Int) × Nat) (fun p => [fD p.1 p.2.1, sD (.ax p.2.2)]) (fun p => p.2.2 < p.2.1.length) (fun p => cD (p.2.1.getD p.2.2 []))
def NextPre (n : Nat) (cs cls : List (List Int)) : Stp → Prop
  | .ax i => i < cs.length
  | .res a b v => a < cls.length ∧ b < cls.length ∧ (1 ≤ v ∧ v ≤ n) ∧ (cls.getD a []).length + (cls.getD b []).length < 64
  | .wk _ _ => False
theorem d_next (n : Nat) (cs cls : List (List Int)) (s : Stp) (hs : NextPre n cs cls s) [Fx X (defScope sP_next_clause) nP_next_clause k] [Fl X] (hk : 4 ≤ k) (h1 : Hs X "axiom_clause" 3 pAxiom) (h2 : Hs X "resolved_clause" 4 pResolved) :
    DS X [.dat (fD n cs), .dat (.list (cls.map cD)), .dat (sD s)] (defBody sP_next_clause) (EndK ([fD n cs, .list (cls.map cD), sD s].map .dat) (fun d => d = oD (nextC cs cls s))) := by
  cases s with
  | ax i =>
    have hi : i < cs.length := hs
    exact s_ifTR (t_T (t_and (t_gt (e_lenT (e_v 2 rfl rfl)) e_int) fun _ => t_eqS (e_ixT (e_v 2 rfl rfl) e_int rfl) e_str) (and_T (by simp) (by decide +kernel)))
      (s_ret (e_call h1 (n, cs, i) (a_d (e_v 0 rfl rfl) (a_d (e_v 2 rfl rfl) a_nil)) hi (by omega)) (end_d (by simp only [nextC]; rw [List.getElem?_eq_getElem hi, getD_get hi]; rfl)))
  | res a b v =>
    exact s_ifF0 (t_F (t_and (t_gt (e_lenT (e_v 2 rfl rfl)) e_int) fun _ => t_eqS (e_ixT (e_v 2 rfl rfl) e_int rfl) e_str) (and_F (by decide +kernel)))
      (s_ifTR (t_T (t_and (t_gt (e_lenT (e_v 2 rfl rfl)) e_int) fun _ => t_eqS (e_ixT (e_v 2 rfl rfl) e_int rfl) e_str) (and_T (by simp) (by decide +kernel)))
        (s_ret (e_call h2 (n, cs, cls, a, b, v) (a_d (e_v 0 rfl rfl) (a_d (e_v 1 rfl rfl) (a_d (e_v 2 rfl rfl) a_nil))) hs hk) (end_d rfl)))
  | wk a c => exact hs.elim
abbrev pNext : Sp := spP (T := Nat × List (List Int) × List (List Int) × Stp) (fun p => [fD p.1 p.2.1, .list (p.2.2.1.map cD), sD p.2.2.2]) (fun p => NextPre p.1 p.2.1 p.2.2.1 p.2.2.2) (fun p => oD (nextC p.2.1 p.2.2.1 p.2.2.2))
def srcs : Stp → List Nat
  | .ax _ => []
  | .res a b _ => [a, b]
  | .wk a _ => [a]
theorem d_sources (s : Stp) [Fx X (defScope sP_sources) nP_sources k] [Fl X] : DS X [.dat (sD s)] (defBody sP_sources) (EndK ([sD s].map .dat) (fun d => d = .list ((srcs s).map fun n => .int (n : Nat)))) := by
  cases s with
  | ax i => exact s_ifTR (t_T (t_eqS (e_ixT (e_v 0 rfl rfl) e_int rfl) e_str) (by decide +kernel)) (s_ret (e_lst (ds := []) a_nil) (end_d rfl))
  | res a b v => exact s_ifF0 (t_F (t_eqS (e_ixT (e_v 0 rfl rfl) e_int rfl) e_str) (by decide +kernel)) (s_ret (e_ifT (t_T (t_eqS (e_ixT (e_v 0 rfl rfl) e_int rfl) e_str) (by decide +kernel)) (e_lst (ds := [_, _]) (a_d (e_ixT (e_v 0 rfl rfl) e_int rfl) (a_d (e_ixT (e_v 0 rfl rfl) e_int rfl) a_nil)))) (end_d rfl))
  | wk a c => exact s_ifF0 (t_F (t_eqS (e_ixT (e_v 0 rfl rfl) e_int rfl) e_str) (by decide +kernel)) (s_ret (e_ifF (t_F (t_eqS (e_ixT (e_v 0 rfl rfl) e_int rfl) e_str) (by decide +kernel)) (e_lst (ds := [_]) (a_d (e_ixT (e_v 0 rfl rfl) e_int rfl) a_nil))) (end_d rfl))
abbrev pSources : Sp := spP (T := Stp) (fun s => [sD s]) (fun _ => True) (fun s => .list ((srcs s).map fun n => .int (n : Nat)))
/-! ### renamed steps -/
def renS (ns : List Int) (cs oth : List (List Int)) : Stp → Stp
  | .ax i => .ax (oth.idxOf (renC ns (cs.getD i [])))
  | .wk a c => .wk a (renC ns c)
  | .res a b v => let l := (atI ns ((v : Int) - 1)).getD 0; if 0 < l then .res a b l.toNat else .res b a (-l).toNat
/-- names: each index its own, in front a sign -/
def NmOk (ns : List Int) : Prop := ∀ i (h : i < ns.length), ns[i] = (i : Int) + 1 ∨ ns[i] = -((i : Int) + 1)
theorem idxOf_first {cs : List (List Int)} {c : List Int} (h : c ∈ cs) : (∃ h : cs.idxOf c < cs.length, cs[cs.idxOf c] = c) ∧ ∀ m (h : m < cs.length), m < cs.idxOf c → cs[m] ≠ c := by
  refine ⟨⟨List.idxOf_lt_length_of_mem h, List.getElem_idxOf _⟩, fun m hm hlt e => ?_⟩
  have := List.not_of_lt_findIdx (p := (· == c)) (xs := cs) (i := m) hlt
  simp [e] at this
theorem d_renS (ns : List Int) (n : Nat) (cs oth : List (List Int)) (s : Stp) (hn : NmOk ns) (hl : ns.length = n) (hs : match s with | .ax i => i < cs.length ∧ (∀ l ∈ cs.getD i [], NamesOk ns l) ∧ renC ns (cs.getD i []) ∈ oth | .wk _ c => ∀ l ∈ c, NamesOk ns l | .res _ _ v => 1 ≤ v ∧ v ≤ n)
    [Fx X (defScope sP_renamed_step) nP_renamed_step k] [Fl X] (hk : 1 ≤ k) (h1 : Hs X "renamed_clause" 1 pRenC) :
    DS X [.dat (fD n cs), .dat (fD n oth), .dat (.tuple (ns.map .int)), .dat (sD s), .any, .any, .any, .any, .any] (defBody sP_renamed_step) (EndK ([fD n cs, fD n oth, .tuple (ns.map .int), sD s].map .dat) (fun d => d = sD (renS ns cs oth s))) := by
  cases s with
  | ax i =>
    exact s_ifTR (t_T (t_eqS (e_ixT (e_v 3 rfl rfl) e_int rfl) e_str) (by decide +kernel)) (s_ret (e_tup (ds := [.str "axiom", .int (oth.idxOf (renC ns (cs.getD i [])) : Nat)]) (a_d e_str (a_d (e_idx (cs := oth) (cc := renC ns (cs.getD i [])) (e_ixT (e_v 1 rfl rfl) e_int rfl)
      (e_call h1 (true, cs.getD i [], ns) (a_d (e_ixT (e_ixT (e_v 0 rfl rfl) e_int rfl) (e_ixT (e_v 3 rfl rfl) e_int rfl) (atC hs.1)) (a_d (e_v 2 rfl rfl) a_nil)) hs.2.1 hk) (idxOf_first hs.2.2).1 (idxOf_first hs.2.2).2) a_nil))) (end_d rfl))
  | wk a c =>
    exact s_ifF0 (t_F (t_eqS (e_ixT (e_v 3 rfl rfl) e_int rfl) e_str) (by decide +kernel)) (s_ifTR (t_T (t_eqS (e_ixT (e_v 3 rfl rfl) e_int rfl) e_str) (by decide +kernel)) (s_ret (e_tup (ds := [.str "weaken", .int (a : Nat), cD (renC ns c)]) (a_d e_str (a_d (e_ixT (e_v 3 rfl rfl) e_int rfl)
      (a_d (e_call h1 (true, c, ns) (a_d (e_ixT (e_v 3 rfl rfl) e_int rfl) (a_d (e_v 2 rfl rfl) a_nil)) hs hk) a_nil)))) (end_d rfl)))
  | res a b v =>
    obtain ⟨v1, v2⟩ := hs
    obtain ⟨l, hl2⟩ := atI_lt (xs := ns) (i := (v : Int) - 1) (by omega) (by omega)
    have hat : atI (ns.map PyData.int) ((v : Int) - 1) = some (.int l) := by rw [atI_map, hl2]; rfl
    have hl0 : l ≠ 0 := by
      have e : (v : Int) - 1 = ((v - 1 : Nat) : Int) := by omega
      rw [e, atI_nn (List.getElem?_eq_getElem (by omega))] at hl2
      have := hn (v - 1) (by omega)
      have h2 := Option.some.inj hl2
      omega
    refine s_ifF0 (t_F (t_eqS (e_ixT (e_v 3 rfl rfl) e_int rfl) e_str) (by decide +kernel)) (s_ifF0 (t_F (t_eqS (e_ixT (e_v 3 rfl rfl) e_int rfl) e_str) (by decide +kernel)) (s_unp4 4 5 6 7 rfl rfl rfl rfl (e_v 3 rfl rfl) (s_asg 8 rfl (e_ixT (e_v 2 rfl rfl) (e_sub (e_v 7 rfl rfl) e_int) hat) ?_)))
    by_cases h0 : 0 < l
    · exact s_ret (e_ifT (t_T (t_gt (e_v 8 rfl rfl) e_int) (decide_eq_true h0)) (e_tup (ds := [.str "resolve", .int a, .int b, .int l]) (a_d e_str (a_d (e_v 5 rfl rfl) (a_d (e_v 6 rfl rfl) (a_d (e_v 8 rfl rfl) a_nil)))))) (end_d (by
        simp only [renS, hl2, Option.getD_some, if_pos h0, sD]
        rw [Int.toNat_of_nonneg (Int.le_of_lt h0)]))
    · exact s_ret (e_ifF (t_F (t_gt (e_v 8 rfl rfl) e_int) (decide_eq_false h0)) (e_tup (ds := [.str "resolve", .int b, .int a, .int (-l)]) (a_d e_str (a_d (e_v 6 rfl rfl) (a_d (e_v 5 rfl rfl) (a_d (e_neg (e_v 8 rfl rfl)) a_nil)))))) (end_d (by
        simp only [renS, hl2, Option.getD_some, if_neg h0, sD]
        rw [Int.toNat_of_nonneg (by omega)]))
def RenPre (ns : List Int) (n : Nat) (cs oth : List (List Int)) : Stp → Prop
  | .ax i => i < cs.length ∧ (∀ l ∈ cs.getD i [], NamesOk ns l) ∧ renC ns (cs.getD i []) ∈ oth
  | .wk _ c => ∀ l ∈ c, NamesOk ns l
  | .res _ _ v => 1 ≤ v ∧ v ≤ n
abbrev pRenS : Sp := spP (T := List Int × Nat × List (List Int) × List (List Int) × Stp) (fun p => [fD p.2.1 p.2.2.1, fD p.2.1 p.2.2.2.1, .tuple (p.1.map .int), sD p.2.2.2.2]) (fun p => NmOk p.1 ∧ p.1.length = p.2.1 ∧ RenPre p.1 p.2.1 p.2.2.1 p.2.2.2.1 p.2.2.2.2) (fun p => sD (renS p.1 p.2.2.1 p.2.2.2.1 p.2.2.2.2))
theorem d_renSs (ns : List Int) (n : Nat) (cs : List (List Int)) (ss : List Stp) (hn : NmOk ns) (hl : ns.length = n) (hc : ∀ c ∈ cs, ∀ l ∈ c, NamesOk ns l) (hs : ∀ s ∈ ss, RenPre ns n cs (renF ns cs) s) [Fx X (defScope sP_renamed_steps) nP_renamed_steps k] [Fl X] (hk : 2 ≤ k) (h1 : Hs X "renamed" 2 pRenF) (h2 : Hs X "renamed_step" 2 pRenS) :
    DS X [.dat (fD n cs), .dat (.tuple (ns.map .int)), .dat (.tuple (ss.map sD)), .any, .any] (defBody sP_renamed_steps) (EndK ([fD n cs, .tuple (ns.map .int), .tuple (ss.map sD)].map .dat) (fun d => d = .tuple ((ss.map (renS ns cs (renF ns cs))).map sD))) :=
  s_asg 3 rfl (e_call h1 (true, n, cs, ns) (a_d (e_v 0 rfl rfl) (a_d (e_v 1 rfl rfl) a_nil)) hc hk) (s_ret (e_tupL (DE.to (e_lc0 (enc := sD) (xs := ss) (g := fun s => sD (renS ns cs (renF ns cs) s)) 4 (i_T (e_v 2 rfl rfl)) rfl
    (fun s H C cl fp y fx' hy => e_cb h2 (ns, n, cs, renF ns cs, y) (a_d (e_v 0 rfl rfl) (a_d (e_v 3 rfl rfl) (a_d (e_v 1 rfl rfl) (a_d (e_v 4 rfl rfl) a_nil)))) ⟨hn, hl, hs y hy⟩ hk)) (by rw [List.map_map]; rfl))) (end_d rfl))
abbrev pRenSs : Sp := spP (T := List Int × Nat × List (List Int) × List Stp) (fun p => [fD p.2.1 p.2.2.1, .tuple (p.1.map .int), .tuple (p.2.2.2.map sD)]) (fun p => NmOk p.1 ∧ p.1.length = p.2.1 ∧ (∀ c ∈ p.2.2.1, ∀ l ∈ c, NamesOk p.1 l) ∧ ∀ s ∈ p.2.2.2, RenPre p.1 p.2.1 p.2.2.1 (renF p.1 p.2.2.1) s) (fun p => .tuple ((p.2.2.2.map (renS p.1 p.2.2.1 (renF p.1 p.2.2.1))).map sD))
end
end Rb
/-! the falling division; the law's small defs -/
namespace Rb
open PySem PySem.Spec L2
section
variable {X : Cx} {ρ : List Sl} {sc : Scope} {N : List Str} {k : Nat} {a b c e tg elt : Expr} {rest : List Expr} {pos p p1 : Pos} {P : Out → Prop} {d : PyData} {i j : Int}
/-- range(1, n + 1) -/
theorem i_r1n [fx : Fx X sc N k] {n : Nat} (h : DE X ρ a (.int 1)) (h' : DE X ρ b (.int ((n : Int) + 1))) (hn : n ≤ 1000000) (hg : glB sc "range" = true := by decide +kernel) (hs : starEach [a, b] X.env = [(false, eval a X.env), (false, eval b X.env)] := by rfl) (hs2 : starEach [b] X.env = [(false, eval b X.env)] := by rfl) : DI X ρ tg (.Call (.Name "range" p) [a, b] [] pos) (fun x => x = (List.range n).map fun i => .int (1 + (i : Nat))) := by
  have q := i_r2 (tg := tg) (p := p) (pos := pos) h h' (by omega) hg hs hs2
  have e : rngD 1 ((n : Int) + 1 - 1).toNat = (List.range n).map fun i => .int (1 + (i : Nat)) := by unfold rngD; rw [show ((n : Int) + 1 - 1).toNat = n by omega]
  rw [e] at q
  exact q
/-- range(1, n) -/
theorem i_r1m [fx : Fx X sc N k] {n : Nat} (h : DE X ρ a (.int 1)) (h' : DE X ρ b (.int (n : Nat))) (hn : n ≤ 1000000) (hg : glB sc "range" = true := by decide +kernel) (hs : starEach [a, b] X.env = [(false, eval a X.env), (false, eval b X.env)] := by rfl) (hs2 : starEach [b] X.env = [(false, eval b X.env)] := by rfl) : DI X ρ tg (.Call (.Name "range" p) [a, b] [] pos) (fun x => x = (List.range (n - 1)).map fun i => .int (1 + (i : Nat))) := by
  have q := i_r2 (tg := tg) (p := p) (pos := pos) h h' (by omega) hg hs hs2
  have e : rngD 1 ((n : Int) - 1).toNat = (List.range (n - 1)).map fun i => .int (1 + (i : Nat)) := by unfold rngD; rw [show ((n : Int) - 1).toNat = n - 1 by omega]
  rw [e] at q
  exact q
/-- range(n) -/
theorem i_r0 [fx : Fx X sc N k] {n : Nat} (h : DE X ρ a (.int n)) (hn : n ≤ 1000000) (hg : glB sc "range" = true := by decide +kernel) (hs : starEach [a] X.env = [(false, eval a X.env)] := by rfl) : DI X ρ tg (.Call (.Name "range" p) [a] [] pos) (fun x => x = (List.range n).map fun i => .int (i : Nat)) := by
  have q := i_r1 (tg := tg) (p := p) (pos := pos) h (by omega) hg hs
  have e : rngD 0 n = (List.range n).map fun i => .int (i : Nat) := by unfold rngD; simp
  rw [e] at q
  exact q
end
def nameV (cs : List (List Int)) (div : List Int) (v : Int) : Int := if decide (v ∈ common cs div) && decide (((sideC cs div 1).filter fun c => decide (v ∈ c)).length = 0) then -v else v
def namesOf (n : Nat) (cs : List (List Int)) (div : List Int) : List Int := (List.range n).map fun i => nameV cs div (1 + (i : Nat))
def movedD (ns : List Int) (cs : List (List Int)) (div : List Int) : List Int := sortI (div.map fun k => (((renF ns cs).idxOf (renC ns (cs.getD k.toNat []))) : Nat))
theorem namesOf_len (n : Nat) (cs : List (List Int)) (div : List Int) : (namesOf n cs div).length = n := by simp [namesOf]
theorem namesOf_ok (n : Nat) (cs : List (List Int)) (div : List Int) : NmOk (namesOf n cs div) := fun i h => by
  simp only [namesOf, List.getElem_map, List.getElem_range, nameV]
  split <;> omega
theorem Fm.names {n : Nat} {cs : List (List Int)} {div : List Int} (h : Fm n cs) : ∀ c ∈ cs, ∀ l ∈ c, NamesOk (namesOf n cs div) l := fun c hc l hl => by
  have := (h.2.2 c hc).2.1 l hl
  unfold NamesOk
  rw [namesOf_len]
  exact this
theorem renC_mem {ns : List Int} {cs : List (List Int)} {c : List Int} (h : c ∈ cs) : renC ns c ∈ renF ns cs := sortC_mem.mpr (List.mem_map_of_mem h)
section
variable {X : Cx} {k : Nat}
theorem d_falling (n : Nat) (cs : List (List Int)) (div : List Int) (h : Fm n cs) (hd : ∀ k ∈ div, 0 ≤ k ∧ k < cs.length) [Fx X (defScope sP_falling_division) nP_falling_division k] [Fl X] (hk : 2 ≤ k) (h1 : Hs X "side_formula" 1 pSide) (h2 : Hs X "common_variables" 2 pCommon) (h3 : Hs X "renamed" 2 pRenF) (h4 : Hs X "renamed_clause" 1 pRenC) :
    DS X [.dat (fD n cs), .dat (cD div), .any, .any, .any, .any, .any, .any, .any, .any, .any, .any, .any] (defBody sP_falling_division) (EndK ([fD n cs, cD div].map .dat) (fun d => d = .tuple [cD (namesOf n cs div), fD n (renF (namesOf n cs div) cs), cD (movedD (namesOf n cs div) cs div)])) := by
  refine s_unp2 2 3 rfl rfl (e_v 0 rfl rfl) (s_asg 4 rfl (e_ixT (e_call h1 (n, cs, div, 1) (a_d (e_v 0 rfl rfl) (a_d (e_v 1 rfl rfl) (a_d e_int a_nil))) trivial (by omega)) e_int rfl) (s_asg 5 rfl (e_call h2 (n, cs, div) (a_d (e_v 0 rfl rfl) (a_d (e_v 1 rfl rfl) a_nil)) h hk)
    (s_new 6 rfl fun A => s_forN 7 rfl (i_r1n (n := n) e_int (e_add (e_v 2 rfl rfl) e_int) (by have := h.1; omega))
      (fun ds m ρ' => ∃ s7 s8, ρ' = [.dat (fD n cs), .dat (cD div), .dat (.int n), .dat (.tuple (cs.map cD)), .dat (.tuple ((sideC cs div 1).map cD)), .dat (.list ((common cs div).map .int)), .own A (fun y => y = ((namesOf n cs div).take m).map .int), s7, s8, .any, .any, .any, .any]) (fun ds _ => ⟨_, _, rfl⟩) ?_ ?_)))
  · rintro ds m d ρ' rfl hm ⟨s7, s8, rfl⟩
    have hmn : m < n := by have := (List.getElem?_eq_some_iff.mp hm).1; simpa using this
    rw [List.getElem?_map, List.getElem?_range hmn] at hm
    cases hm
    have hnm : (namesOf n cs div)[m]? = some (nameV cs div (1 + (m : Nat))) := by unfold namesOf; rw [List.getElem?_map, List.getElem?_range hmn]; rfl
    refine s_lc 8 rfl (l_lc (enc := cD) (xs := sideC cs div 1) (f := fun c => decide (1 + (m : Int) ∈ c)) (g := cD) 9 (i_T (e_v 4 rfl rfl)) rfl (fun s H C cl fp y fx' hy => ts_1 (t_inT (e_v 7 rfl rfl) (e_v 9 rfl rfl))) (fun s H C cl fp y fx' hy hf => e_v 9 rfl rfl))
      (s_app 6 rfl rfl (DE.to (d' := .int (nameV cs div (1 + (m : Int)))) (e_if (t_and (t_inL (e_v 7 rfl rfl) (e_v 5 rfl rfl)) fun _ => t_eq (e_lenL (e_v 8 rfl rfl)) e_int) (fun _ => e_neg (e_v 7 rfl rfl)) (fun _ => e_v 7 rfl rfl)) ?_) ?_ (s_nil ?_))
    · unfold nameV
      rw [List.length_map]
      have e : decide ((((sideC cs div 1).filter fun c => decide (1 + (m : Int) ∈ c)).length : Int) = 0) = decide (((sideC cs div 1).filter fun c => decide (1 + (m : Int) ∈ c)).length = 0) := by
        rw [decide_eq_decide]; omega
      rw [e]
      split <;> rfl
    · rw [List.length_map, List.length_take, namesOf_len, sizeLine_eq]; have := h.1; omega
    · show ∃ s7 s8, _ = _
      rw [List.take_add_one, hnm, List.map_append]
      exact ⟨_, _, rfl⟩
  · rintro ds ρ' rfl ⟨s7, s8, rfl⟩
    rw [show (List.map (fun i : Nat => PyData.int (1 + (i : Nat))) (List.range n)).length = (namesOf n cs div).length by rw [List.length_map, List.length_range, namesOf_len], List.take_length]
    refine s_frz 6 rfl (s_asg 10 rfl (e_call h3 (false, n, cs, namesOf n cs div) (a_d (e_v 0 rfl rfl) (a_d (e_v 6 rfl rfl) a_nil)) h.names hk) (s_asg 11 rfl (e_sortI (ns := div.map fun k => (((renF (namesOf n cs div) cs).idxOf (renC (namesOf n cs div) (cs.getD k.toNat []))) : Nat)) (DE.to (e_lc0 (enc := .int) (xs := div) (g := fun k => .int (((renF (namesOf n cs div) cs).idxOf (renC (namesOf n cs div) (cs.getD k.toNat []))) : Nat)) 12 (i_T (e_v 1 rfl rfl)) rfl
      (fun s H C cl fp y fx' hy => ?_)) (by rw [List.map_map]; rfl))) (s_ret (e_tup (ds := [cD (namesOf n cs div), fD n (renF (namesOf n cs div) cs), cD (movedD (namesOf n cs div) cs div)]) (a_d (e_tupL (e_v 6 rfl rfl)) (a_d (e_v 10 rfl rfl) (a_d (e_tupL (e_v 11 rfl rfl)) a_nil)))) (end_d rfl))))
    have hy2 := hd y hy
    have hyl : y.toNat < cs.length := by omega
    have hmem : cs.getD y.toNat [] ∈ cs := by rw [getD_get hyl]; exact List.getElem_mem _
    have hix := idxOf_first (renC_mem (ns := namesOf n cs div) hmem)
    have hat : atI (cs.map cD) y = some (cD (cs.getD y.toNat [])) := by
      have := atC hyl
      rwa [Int.toNat_of_nonneg hy2.1] at this
    exact e_idx (cs := renF (namesOf n cs div) cs) (cc := renC (namesOf n cs div) (cs.getD y.toNat [])) (e_ixT (e_v 10 rfl rfl) e_int rfl) (e_cb h4 (false, cs.getD y.toNat [], namesOf n cs div) (a_d (e_ixT (e_v 3 rfl rfl) (e_v 12 rfl rfl) hat) (a_d (e_v 6 rfl rfl) a_nil)) (h.names _ hmem) (by omega)) hix.1 hix.2
abbrev pFalling : Sp := spP (T := Nat × List (List Int) × List Int) (fun p => [fD p.1 p.2.1, cD p.2.2]) (fun p => Fm p.1 p.2.1 ∧ ∀ k ∈ p.2.2, 0 ≤ k ∧ k < p.2.1.length) (fun p => .tuple [cD (namesOf p.1 p.2.1 p.2.2), fD p.1 (renF (namesOf p.1 p.2.1 p.2.2) p.2.1), cD (movedD (namesOf p.1 p.2.1 p.2.2) p.2.1 p.2.2)])
end
end Rb
/-! the law's small defs -/
namespace Rb
open PySem PySem.Spec L2
def withC (c : List Int) (l : Int) : List Int := sortI (c ++ [l])
def negC (c : List Int) : List Int := sortI (c.map fun l => -l)
def within (s l : List Int) : Bool := decide ((s.filter fun x => !decide (x ∈ l)).length = 0)
def fails (cube c : List Int) : Bool := within (negC c) cube
def leafI (cs : List (List Int)) (cube : List Int) : Int := match cs.findIdx? (fails cube) with
  | some k => (k : Nat)
  | none => -1
def freeV (n : Nat) (cube : List Int) : List Int := ((List.range n).filter fun i : Nat => !decide (1 + (i : Int) ∈ cube) && !decide (-(1 + (i : Int)) ∈ cube)).map fun i : Nat => 1 + (i : Int)
def stepC (f : List (List Int)) (v : Int) : List (List Int) := f.flatMap fun c => [withC c (-v), withC c v]
def growC (n : Nat) : List (List Int) := (List.range n).foldl (fun f i => f ++ stepC f (1 + (i : Nat))) [[]]
def cubes (n : Nat) : List (List Int) := sortC (growC n)
def modelO (n : Nat) (cs : List (List Int)) : Option (List Int) := (cubes n).find? fun c => decide (c.length = n) && decide (leafI cs c < 0)
section
variable {X : Cx} {k : Nat}
theorem d_Lint (d : PyData) (h : noDict d = true) [Fx X (defScope sL_is_integer) nL_is_integer k] [Fl X] : DS X [.dat d] (defBody sL_is_integer) (EndK ([d].map .dat) (fun r => r = .bool (isInt d && !isBool d))) :=
  s_ret (e_and (e_isi (e_v 0 rfl rfl) b_int (k_int h)) fun _ => e_1 (e_not (e_isi (e_v 0 rfl rfl) b_bool (k_bool h)))) (end_d rfl)
theorem d_with (c : List Int) (l : Int) (h : c.length ≤ 1000) [Fx X (defScope sL_with) nL_with k] [Fl X] : DS X [.dat (cD c), .dat (.int l)] (defBody sL_with) (EndK ([cD c, .int l].map .dat) (fun d => d = cD (withC c l))) :=
  s_ret (e_tupL (e_sortI (ns := c ++ [l]) (DE.to (e_cat (e_listT (e_v 0 rfl rfl)) (e_lst (ds := [.int l]) (a_d (e_v 1 rfl rfl) a_nil)) (by rw [List.length_map, sizeLine_eq]; simp; omega)) (by rw [List.map_append]; rfl)))) (end_d rfl)
abbrev pWith : Sp := spP (T := List Int × Int) (fun p => [cD p.1, .int p.2]) (fun p => p.1.length ≤ 1000) (fun p => cD (withC p.1 p.2))
theorem d_neg (c : List Int) [Fx X (defScope sL_negated) nL_negated k] [Fl X] : DS X [.dat (cD c), .any] (defBody sL_negated) (EndK ([cD c].map .dat) (fun d => d = cD (negC c))) :=
  s_ret (e_tupL (e_sortI (ns := c.map fun l => -l) (DE.to (e_lc0 (enc := .int) (xs := c) (g := fun l => .int (-l)) 1 (i_T (e_v 0 rfl rfl)) rfl (fun s H C cl fp y fx' hy => e_neg (e_v 1 rfl rfl))) (by rw [List.map_map]; rfl)))) (end_d rfl)
abbrev pNeg : Sp := spP (T := List Int) (fun c => [cD c]) (fun _ => True) (fun c => cD (negC c))
theorem d_within (s l : List Int) [Fx X (defScope sL_within) nL_within k] [Fl X] : DS X [.dat (cD s), .dat (cD l), .any] (defBody sL_within) (EndK ([cD s, cD l].map .dat) (fun d => d = .bool (within s l))) :=
  s_ret (e_eq (e_lenL (e_lc (enc := .int) (xs := s) (f := fun x => !decide (x ∈ l)) (g := PyData.int) 2 (i_T (e_v 0 rfl rfl)) rfl (fun s H C cl fp y fx' hy => ts_1 (t_niT (e_v 2 rfl rfl) (e_v 1 rfl rfl))) (fun s H C cl fp y fx' hy hf => e_v 2 rfl rfl))) e_int)
    (end_d (by unfold within; rw [List.length_map]; congr 1; rw [decide_eq_decide]; omega))
abbrev pWithin : Sp := spP (T := List Int × List Int) (fun p => [cD p.1, cD p.2]) (fun _ => True) (fun p => .bool (within p.1 p.2))
theorem d_fails (cube c : List Int) [Fx X (defScope sL_fails) nL_fails k] [Fl X] (hk : 1 ≤ k) (h1 : Hs X "_law_negated" 1 pNeg) (h2 : Hs X "_law_within" 1 pWithin) : DS X [.dat (cD cube), .dat (cD c)] (defBody sL_fails) (EndK ([cD cube, cD c].map .dat) (fun d => d = .bool (fails cube c))) :=
  s_ret (e_call h2 (negC c, cube) (a_d (e_call h1 c (a_d (e_v 1 rfl rfl) a_nil) trivial hk) (a_d (e_v 0 rfl rfl) a_nil)) trivial hk) (end_d rfl)
abbrev pFails : Sp := spP (T := List Int × List Int) (fun p => [cD p.1, cD p.2]) (fun _ => True) (fun p => .bool (fails p.1 p.2))
theorem leaf_none {cs : List (List Int)} {cube : List Int} (h : ∀ c ∈ cs, fails cube c = false) : leafI cs cube = -1 := by
  unfold leafI
  rw [List.findIdx?_eq_none_iff.mpr h]
theorem leaf_some {cs : List (List Int)} {cube : List Int} {m : Nat} (hm : m < cs.length) (h : fails cube cs[m] = true) (hb : ∀ j (hj : j < m), fails cube (cs[j]'(by omega)) = false) : leafI cs cube = (m : Nat) := by
  unfold leafI
  rw [List.findIdx?_eq_some_iff_getElem.mpr ⟨hm, h, fun j hj => by simp [hb j hj]⟩]
theorem d_leaf (n : Nat) (cs : List (List Int)) (cube : List Int) (hz : cs.length ≤ 1000) [Fx X (defScope sL_leaf) nL_leaf k] [Fl X] (hk : 2 ≤ k) (h1 : Hs X "_law_fails" 2 pFails) : DS X [.dat (fD n cs), .dat (cD cube), .any] (defBody sL_leaf) (EndK ([fD n cs, cD cube].map .dat) (fun d => d = .int (leafI cs cube))) := by
  refine s_forN 2 rfl (i_r0 (n := cs.length) (DE.to (e_lenT (e_ixT (e_v 0 rfl rfl) e_int rfl)) (by rw [List.length_map])) (by omega)) (fun ds m ρ' => (∃ s, ρ' = [.dat (fD n cs), .dat (cD cube), s]) ∧ ∀ j (hj : j < cs.length), j < m → fails cube cs[j] = false) (fun ds _ => ⟨⟨_, rfl⟩, fun j hj h => by omega⟩) ?_ ?_
  · rintro ds m d ρ' rfl hd ⟨⟨s, rfl⟩, hall⟩
    have hm : m < cs.length := by have := (List.getElem?_eq_some_iff.mp hd).1; simpa using this
    rw [List.getElem?_map, List.getElem?_range hm] at hd
    cases hd
    refine s_ifR (t_val (e_call h1 (cube, cs.getD m []) (a_d (e_v 1 rfl rfl) (a_d (e_ixT (e_ixT (e_v 0 rfl rfl) e_int rfl) (e_v 2 rfl rfl) (atC hm)) a_nil)) trivial hk)) (fun hb => s_ret (e_v 2 rfl rfl) (end_d ?_)) (fun hb => s_nil ⟨⟨_, rfl⟩, fun j hj hjm => ?_⟩)
    · rw [leaf_some hm (by rw [← getD_get (d := []) hm]; exact hb) fun j hj => hall j (by omega) hj]
    · by_cases e : j = m
      · subst e; rw [← getD_get (d := []) hj]; exact hb
      · exact hall j hj (by omega)
  · rintro ds ρ' rfl ⟨⟨s, rfl⟩, hall⟩
    refine s_ret (e_neg e_int) (end_d ?_)
    rw [leaf_none fun c hc => by obtain ⟨j, hj, rfl⟩ := List.getElem_of_mem hc; exact hall j hj (by simpa using hj)]
abbrev pLeaf : Sp := spP (T := Nat × List (List Int) × List Int) (fun p => [fD p.1 p.2.1, cD p.2.2]) (fun p => p.2.1.length ≤ 1000) (fun p => .int (leafI p.2.1 p.2.2))
theorem d_free (n : Nat) (cs : List (List Int)) (cube : List Int) (hn : n ≤ 1000) [Fx X (defScope sL_free) nL_free k] [Fl X] : DS X [.dat (fD n cs), .dat (cD cube), .any] (defBody sL_free) (EndK ([fD n cs, cD cube].map .dat) (fun d => d = .list ((freeV n cube).map .int))) :=
  s_ret (DE.to (e_lc (enc := fun i : Nat => .int (1 + (i : Nat))) (xs := List.range n) (f := fun i => !decide (1 + (i : Int) ∈ cube) && !decide (-(1 + (i : Int)) ∈ cube)) (g := fun i => .int (1 + (i : Nat))) 2 (i_r1n (n := n) e_int (e_add (e_ixT (e_v 0 rfl rfl) e_int rfl) e_int) (by omega)) rfl
    (fun s H C cl fp y fx' hy => ts_1 (t_and (t_niT (e_v 2 rfl rfl) (e_v 1 rfl rfl)) fun _ => t_niT (e_neg (e_v 2 rfl rfl)) (e_v 1 rfl rfl))) (fun s H C cl fp y fx' hy hf => e_v 2 rfl rfl)) (by unfold freeV; rw [List.map_map]; rfl)) (end_d rfl)
abbrev pFree : Sp := spP (T := Nat × List (List Int) × List Int) (fun p => [fD p.1 p.2.1, cD p.2.2]) (fun p => p.1 ≤ 1000) (fun p => .list ((freeV p.1 p.2.2).map .int))
theorem stepC_len (f : List (List Int)) (v : Int) : (stepC f v).length = 2 * f.length := by
  unfold stepC
  rw [List.length_flatMap]
  induction f with
  | nil => rfl
  | cons c f ih => rw [List.map_cons, List.sum_cons, ih]; simp; omega
theorem growC_succ (n : Nat) : growC (n + 1) = growC n ++ stepC (growC n) (1 + (n : Nat)) := by unfold growC; rw [List.range_succ, List.foldl_append]; rfl
theorem growC_len (n : Nat) : (growC n).length = 3 ^ n := by
  induction n with
  | zero => rfl
  | succ n ih => rw [growC_succ, List.length_append, stepC_len, ih, Nat.pow_succ]; omega
theorem withC_len (c : List Int) (l : Int) : (withC c l).length = c.length + 1 := by unfold withC; rw [(sortI_perm _).length_eq, List.length_append]; rfl
theorem stepC_small {f : List (List Int)} {v : Int} {m : Nat} (h : ∀ c ∈ f, c.length ≤ m) : ∀ c ∈ stepC f v, c.length ≤ m + 1 := fun c hc => by
  obtain ⟨c0, h0, h1⟩ := List.mem_flatMap.mp hc
  have := h c0 h0
  rcases List.mem_cons.mp h1 with rfl | h1
  · rw [withC_len]; omega
  · rw [List.mem_singleton.mp h1, withC_len]; omega
theorem growC_small (n : Nat) : ∀ c ∈ growC n, c.length ≤ n := by
  induction n with
  | zero => intro c hc; cases hc with | head => exact Nat.le_refl _ | tail _ h => cases h
  | succ n ih =>
    intro c hc
    rw [growC_succ] at hc
    rcases List.mem_append.mp hc with h | h
    · have := ih c h; omega
    · exact stepC_small ih c h
theorem stepC_app (f : List (List Int)) (c : List Int) (v : Int) : stepC (f ++ [c]) v = stepC f v ++ [withC c (-v), withC c v] := by unfold stepC; rw [List.flatMap_append]; simp
theorem d_cubes (n : Nat) (hn : n ≤ 4) [Fx X (defScope sL_cubes) nL_cubes k] [Fl X] (hk : 1 ≤ k) (h1 : Hs X "_law_with" 1 pWith) : DS X [.dat (.int n), .any, .any, .any, .any] (defBody sL_cubes) (EndK ([.int (n : Nat)].map .dat) (fun d => d = .list ((cubes n).map cD))) := by
  have hp : ∀ m, m ≤ n → (growC m).length ≤ 81 := fun m hm => by
    rw [growC_len]
    exact Nat.le_trans (Nat.pow_le_pow_right (by decide) (Nat.le_trans hm hn)) (by decide)
  refine s_asg 1 rfl (e_lst (ds := [cD []]) (a_d (e_tup (ds := []) a_nil) a_nil)) (s_forN 2 rfl (i_r1n (n := n) e_int (e_add (e_v 0 rfl rfl) e_int) (by omega)) (fun ds m ρ' => ∃ s2 s3 s4, ρ' = [.dat (.int n), .dat (.list ((growC m).map cD)), s2, s3, s4]) (fun ds _ => ⟨_, _, _, rfl⟩) ?_ ?_)
  · rintro ds m d ρ' rfl hd ⟨s2, s3, s4, rfl⟩
    have hm : m < n := by have := (List.getElem?_eq_some_iff.mp hd).1; simpa using this
    rw [List.getElem?_map, List.getElem?_range hm] at hd
    cases hd
    have hl := hp m (by omega)
    refine s_asg 3 rfl (e_lst (ds := []) a_nil) (s_forN 4 rfl (i_L (e_v 1 rfl rfl)) (fun ds j ρ' => ∃ s4, ρ' = [.dat (.int n), .dat (.list ((growC m).map cD)), .dat (.int (1 + (m : Nat))), .dat (.list ((stepC ((growC m).take j) (1 + (m : Nat))).map cD)), s4]) (fun ds _ => ⟨_, rfl⟩) ?_ ?_)
    · rintro ds j d ρ' rfl hd ⟨s4, rfl⟩
      rw [List.getElem?_map] at hd
      cases hc : (growC m)[j]? with
      | none => rw [hc] at hd; cases hd
      | some c =>
        rw [hc] at hd
        cases hd
        have hcl : c.length ≤ 1000 := by have := growC_small m c (List.mem_of_getElem? hc); omega
        refine s_asg 3 rfl (e_cat (e_v 3 rfl rfl) (e_lst (ds := [cD (withC c (-(1 + (m : Int)))), cD (withC c (1 + (m : Int)))]) (a_d (e_call h1 (c, -(1 + (m : Int))) (a_d (e_v 4 rfl rfl) (a_d (e_neg (e_v 2 rfl rfl)) a_nil)) hcl hk) (a_d (e_call h1 (c, 1 + (m : Int)) (a_d (e_v 4 rfl rfl) (a_d (e_v 2 rfl rfl) a_nil)) hcl hk) a_nil))) ?_) (s_nil ?_)
        · rw [List.length_map, stepC_len, List.length_take, sizeLine_eq]; simp; omega
        · show ∃ s4, _ = _
          rw [List.take_add_one, hc, Option.toList_some, stepC_app, List.map_append]
          exact ⟨_, rfl⟩
    · rintro ds ρ' rfl ⟨s4, rfl⟩
      rw [List.length_map, List.take_length]
      refine s_asg 1 rfl (e_cat (e_v 1 rfl rfl) (e_v 3 rfl rfl) ?_) (s_nil ?_)
      · rw [List.length_map, List.length_map, stepC_len, sizeLine_eq]; omega
      · show ∃ s2 s3 s4, _ = _
        rw [growC_succ, List.map_append]
        exact ⟨_, _, _, rfl⟩
  · rintro ds ρ' rfl ⟨s2, s3, s4, rfl⟩
    rw [List.length_map, List.length_range]
    exact s_ret (e_sortC (e_v 1 rfl rfl)) (end_d rfl)
abbrev pCubes : Sp := spP (T := Nat) (fun n => [.int (n : Nat)]) (fun n => n ≤ 4) (fun n => .list ((cubes n).map cD))
end
end Rb
/-! the law's defs of sides, names, gates -/
namespace Rb
open PySem PySem.Spec L2
theorem oD_some (c : List Int) : oD (some c) = cD c := rfl
theorem growC_cubes {n : Nat} {c : List Int} : c ∈ cubes n ↔ c ∈ growC n := sortC_mem
section
variable {X : Cx} {k : Nat}
theorem d_model (n : Nat) (cs : List (List Int)) (hn : n ≤ 4) (hz : cs.length ≤ 1000) [Fx X (defScope sL_model) nL_model k] [Fl X] (hk : 3 ≤ k) (h1 : Hs X "_law_cubes" 2 pCubes) (h2 : Hs X "_law_leaf" 3 pLeaf) : DS X [.dat (fD n cs), .any] (defBody sL_model) (EndK ([fD n cs].map .dat) (fun d => d = oD (modelO n cs))) := by
  refine s_forN 1 rfl (i_L (e_call h1 n (a_d (e_ixT (e_v 0 rfl rfl) e_int rfl) a_nil) hn (by omega))) (fun ds m ρ' => (∃ s, ρ' = [.dat (fD n cs), s]) ∧ ∀ c ∈ (cubes n).take m, (decide (c.length = n) && decide (leafI cs c < 0)) = false) (fun ds _ => ⟨⟨_, rfl⟩, fun c hc => by cases hc⟩) ?_ ?_
  · rintro ds m d ρ' rfl hd ⟨⟨s, rfl⟩, hall⟩
    rw [List.getElem?_map] at hd
    cases hc : (cubes n)[m]? with
    | none => rw [hc] at hd; cases hd
    | some c =>
      rw [hc] at hd
      cases hd
      refine s_ifR (DT.to (t_and (t_eq (DE.to (e_lenT (e_v 1 rfl rfl)) (by rw [List.length_map])) (e_ixT (e_v 0 rfl rfl) e_int rfl)) fun _ => t_lt (e_call h2 (n, cs, c) (a_d (e_v 0 rfl rfl) (a_d (e_v 1 rfl rfl) a_nil)) hz (by omega)) e_int) (b' := decide (c.length = n) && decide (leafI cs c < 0)) (by congr 1; rw [decide_eq_decide]; omega))
        (fun hb => s_ret (e_v 1 rfl rfl) (end_d ?_)) (fun hb => s_nil ⟨⟨_, rfl⟩, fun c' hc' => ?_⟩)
      · have : modelO n cs = some c := by
          unfold modelO
          obtain ⟨hm, e⟩ := List.getElem?_eq_some_iff.mp hc
          rw [List.find?_eq_some_iff_getElem]
          refine ⟨hb, m, hm, e, fun j hj => ?_⟩
          have := hall (cubes n)[j] (by rw [List.mem_take_iff_getElem]; exact ⟨j, by omega, rfl⟩)
          simp [this]
        rw [this]
        rfl
      · rw [List.take_add_one, hc] at hc'
        rcases List.mem_append.mp hc' with h | h
        · exact hall c' h
        · simp at h; subst h; exact hb
  · rintro ds ρ' rfl ⟨⟨s, rfl⟩, hall⟩
    rw [List.length_map, List.take_length] at hall
    refine s_ret e_non (end_d ?_)
    have : modelO n cs = none := by unfold modelO; rw [List.find?_eq_none]; exact fun c hc => by simp [hall c hc]
    rw [this]
    rfl
abbrev pModel : Sp := spP (T := Nat × List (List Int)) (fun p => [fD p.1 p.2]) (fun p => p.1 ≤ 4 ∧ p.2.length ≤ 1000) (fun p => oD (modelO p.1 p.2))
theorem d_Lrising (c : List Int) (hc : c.Pairwise (· < ·)) (hz : c.length ≤ 1000) [Fx X (defScope sL_rising) nL_rising k] [Fl X] : DS X [.dat (cD c), .any] (defBody sL_rising) (EndK ([cD c].map .dat) (fun d => d = .bool true)) := by
  have key : ∀ i, i < c.length - 1 → atI (c.map PyData.int) (1 + (i : Int) - 1) = some (.int (c.getD i 0)) ∧ atI (c.map PyData.int) (1 + (i : Int)) = some (.int (c.getD (i + 1) 0)) ∧ c.getD i 0 < c.getD (i + 1) 0 := fun i hi => by
    refine ⟨?_, ?_, ?_⟩
    · rw [show (1 + (i : Int) - 1) = ((i : Nat) : Int) by omega, atI_map, atI_nn (List.getElem?_eq_getElem (by omega)), getD_get (by omega)]; rfl
    · rw [show (1 + (i : Int)) = ((i + 1 : Nat) : Int) by omega, atI_map, atI_nn (List.getElem?_eq_getElem (by omega)), getD_get (by omega)]; rfl
    · rw [getD_get (by omega), getD_get (by omega)]
      exact List.pairwise_iff_getElem.mp hc i (i + 1) (by omega) (by omega) (by omega)
  refine s_ret (e_eq (e_lenL (e_lc (enc := fun i : Nat => .int (1 + (i : Nat))) (xs := List.range (c.length - 1)) (f := fun i => !decide (c.getD i 0 < c.getD (i + 1) 0)) (g := fun i => .int (1 + (i : Nat))) 1 (i_r1m (n := c.length) e_int (DE.to (e_lenT (e_v 0 rfl rfl)) (by rw [List.length_map])) (by omega)) rfl
    (fun s H C cl fp y fx' hy => ?_) (fun s H C cl fp y fx' hy hf => e_v 1 rfl rfl))) e_int) (end_d ?_)
  · have hk := key y (by simpa using hy)
    exact ts_1 (t_not (t_lt (e_ixT (e_v 0 rfl rfl) (e_sub (e_v 1 rfl rfl) e_int) hk.1) (e_ixT (e_v 0 rfl rfl) (e_v 1 rfl rfl) hk.2.1)))
  · have e : (List.range (c.length - 1)).filter (fun i => !decide (c.getD i 0 < c.getD (i + 1) 0)) = [] := List.filter_eq_nil_iff.mpr fun i hi => by
      have := (key i (by simpa using hi)).2.2
      simp only [decide_eq_true this]; decide
    rw [e]
    rfl
abbrev pLrising : Sp := spP (T := List Int) (fun c => [cD c]) (fun c => c.Pairwise (· < ·) ∧ c.length ≤ 1000) (fun _ => .bool true)
abbrev pLint : Sp := spP (T := PyData) (fun d => [d]) (fun d => noDict d = true) (fun d => .bool (isInt d && !isBool d))
theorem d_Lclause (n : Nat) (c : List Int) (hn : n ≤ 100) (hc : Cl n c) [Fx X (defScope sL_is_clause) nL_is_clause k] [Fl X] (hk : 1 ≤ k) (h1 : Hs X "_law_is_integer" 1 pLint) (h2 : Hs X "_law_rising" 1 pLrising) : DS X [.dat (.int n), .dat (cD c), .any] (defBody sL_is_clause) (EndK ([.int (n : Nat), cD c].map .dat) (fun d => d = .bool true)) := by
  have f1 : c.filter (fun l => !(isInt (.int l) && !isBool (.int l))) = [] := List.filter_eq_nil_iff.mpr fun l hl => by simp [isInt, isBool]
  have f2 : c.filter (fun l => decide (l = 0) || (decide ((n : Int) < l) || decide (l < -(n : Int)))) = [] := List.filter_eq_nil_iff.mpr fun l hl => by
    have := hc.2.1 l hl
    simp; omega
  have f3 : c.filter (fun l => decide (-l ∈ c)) = [] := List.filter_eq_nil_iff.mpr fun l hl => by simpa using hc.2.2 l hl
  have hl := hc.len
  refine s_ifF0 (t_F (t_or (t_not (t_val (e_isi (e_v 1 rfl rfl) b_tuple (k_tuple rfl)))) fun _ => t_gt (e_lenL (e_lc (enc := .int) (xs := c) (f := fun l => !(isInt (.int l) && !isBool (.int l))) (g := PyData.int) 2 (i_T (e_v 1 rfl rfl)) rfl
    (fun s H C cl fp y fx' hy => ts_1 (t_not (t_val (e_cb h1 (.int y) (a_d (e_v 2 rfl rfl) a_nil) rfl hk)))) (fun s H C cl fp y fx' hy hf => e_v 2 rfl rfl))) e_int) (by rw [f1]; rfl))
    (s_ifF0 (t_F (t_or (t_gt (e_lenL (e_lc (enc := .int) (xs := c) (f := fun l => decide (l = 0) || (decide ((n : Int) < l) || decide (l < -(n : Int)))) (g := PyData.int) 2 (i_T (e_v 1 rfl rfl)) rfl
      (fun s H C cl fp y fx' hy => ts_1 (t_w (w_or (t_eq (e_v 2 rfl rfl) e_int) fun _ => w_or (t_gt (e_v 2 rfl rfl) (e_v 0 rfl rfl)) fun _ => w_1o (t_lt (e_v 2 rfl rfl) (e_neg (e_v 0 rfl rfl)))))) (fun s H C cl fp y fx' hy hf => e_v 2 rfl rfl))) e_int)
      fun _ => t_not (t_val (e_call h2 c (a_d (e_v 1 rfl rfl) a_nil) ⟨hc.1, by omega⟩ hk))) (by rw [f2]; rfl))
      (s_ret (e_eq (e_lenL (e_lc (enc := .int) (xs := c) (f := fun l => decide (-l ∈ c)) (g := PyData.int) 2 (i_T (e_v 1 rfl rfl)) rfl (fun s H C cl fp y fx' hy => ts_1 (t_inT (e_neg (e_v 2 rfl rfl)) (e_v 1 rfl rfl))) (fun s H C cl fp y fx' hy hf => e_v 2 rfl rfl))) e_int) (end_d (by rw [f3]; rfl))))
abbrev pLclause : Sp := spP (T := Nat × List Int) (fun p => [.int p.1, cD p.2]) (fun p => p.1 ≤ 100 ∧ Cl p.1 p.2) (fun _ => .bool true)
/-! sides -/
theorem side_range (cs : List (List Int)) (div : List Int) (s : Int) : ((List.range cs.length).filter fun k : Nat => decide (decide ((k : Int) ∈ div) = decide (s = 1))).map (fun k => cD (cs.getD k [])) = (sideC cs div s).map cD := by
  unfold sideC
  have e : cs.zipIdx = (List.range cs.length).map fun k => (cs.getD k [], k) := by
    apply List.ext_getElem?
    intro i
    rw [List.getElem?_zipIdx, List.getElem?_map]
    by_cases hi : i < cs.length
    · rw [List.getElem?_eq_getElem hi, List.getElem?_range hi]; simp [List.getElem?_eq_getElem hi]
    · rw [List.getElem?_eq_none (by omega), List.getElem?_eq_none (by simp; omega)]; rfl
  rw [e, List.filter_map, List.map_map, List.map_map]
  rfl
theorem d_Lside (n : Nat) (cs : List (List Int)) (div : List Int) (s : Int) (hz : cs.length ≤ 1000) [Fx X (defScope sL_side) nL_side k] [Fl X] : DS X [.dat (fD n cs), .dat (cD div), .dat (.int s), .any, .any] (defBody sL_side) (EndK ([fD n cs, cD div, .int s].map .dat) (fun d => d = fD n (sideC cs div s))) :=
  s_lc 3 rfl (LcOk.imp (l_lc (enc := fun k : Nat => .int (k : Nat)) (xs := List.range cs.length) (f := fun k : Nat => decide (decide ((k : Int) ∈ div) = decide (s = 1))) (g := fun k : Nat => cD (cs.getD k [])) 4 (i_r0 (n := cs.length) (DE.to (e_lenT (e_ixT (e_v 0 rfl rfl) e_int rfl)) (by rw [List.length_map])) (by omega)) rfl
    (fun s' H C cl fp y fx' hy => ts_1 (t_eqB (e_inT (e_v 4 rfl rfl) (e_v 1 rfl rfl)) (e_eq (e_v 2 rfl rfl) e_int)))
    (fun s' H C cl fp y fx' hy hf => e_ixT (e_ixT (e_v 0 rfl rfl) e_int rfl) (e_v 4 rfl rfl) (atC (by simpa using hy)))) (fun d hd => hd.trans (by rw [side_range])))
    (s_ret (e_tup (ds := [.int n, .tuple ((sideC cs div s).map cD)]) (a_d (e_ixT (e_v 0 rfl rfl) e_int rfl) (a_d (e_tupL (e_v 3 rfl rfl)) a_nil))) (end_d rfl))
abbrev pLside : Sp := spP (T := Nat × List (List Int) × List Int × Int) (fun p => [fD p.1 p.2.1, cD p.2.2.1, .int p.2.2.2]) (fun p => p.2.1.length ≤ 1000) (fun p => fD p.1 (sideC p.2.1 p.2.2.1 p.2.2.2))
end
end Rb
/-! the law's variables, values, signs, gates, names -/
namespace Rb
open PySem PySem.Spec L2
def occF (cs : List (List Int)) : List Int := cs.foldl (fun f c => f ++ (c.filter fun l => !decide (absI l ∈ f)).map absI) []
theorem occF_app (cs : List (List Int)) (c : List Int) : occF (cs ++ [c]) = occF cs ++ (c.filter fun l => !decide (absI l ∈ occF cs)).map absI := by unfold occF; rw [List.foldl_append]; rfl
theorem occF_mem (cs : List (List Int)) : ∀ v, v ∈ occF cs ↔ v ∈ cs.flatMap fun c => c.map absI := by
  have key : ∀ m, m ≤ cs.length → ∀ v, v ∈ occF (cs.take m) ↔ v ∈ (cs.take m).flatMap fun c => c.map absI := by
    intro m
    induction m with
    | zero => intro _ v; simp [occF]
    | succ m ih =>
      intro hm v
      have hc : cs[m]? = some cs[m] := List.getElem?_eq_getElem (by omega)
      rw [List.take_add_one, hc, Option.toList_some, occF_app, List.flatMap_append, List.mem_append, List.mem_append, ih (by omega) v]
      simp only [List.flatMap_cons, List.flatMap_nil, List.append_nil, List.mem_map, List.mem_filter]
      constructor
      · rintro (h | ⟨l, ⟨h1, h2⟩, h3⟩)
        · exact .inl h
        · exact .inr ⟨l, h1, h3⟩
      · rintro (h | ⟨l, h1, h3⟩)
        · exact .inl h
        · by_cases h : v ∈ (cs.take m).flatMap fun c => c.map absI
          · exact .inl h
          · refine .inr ⟨l, ⟨h1, ?_⟩, h3⟩
            rw [h3]
            have := fun q => h ((ih (by omega) v).mp q)
            simpa using this
  have := key cs.length (Nat.le_refl _)
  rwa [List.take_length] at this
theorem absI_inj {n : Nat} {c : List Int} (h : Cl n c) {a b : Int} (ha : a ∈ c) (hb : b ∈ c) (e : absI a = absI b) : a = b := by
  have h1 := h.2.2 a ha
  have h2 : a = b ∨ a = -b := by unfold absI at e; split at e <;> split at e <;> omega
  rcases h2 with h2 | h2
  · exact h2
  · exact absurd (by rw [h2, Int.neg_neg]; exact hb) h1
theorem occF_nodup {n : Nat} {cs : List (List Int)} (h : ∀ c ∈ cs, Cl n c) : (occF cs).Nodup := by
  have key : ∀ m, m ≤ cs.length → (occF (cs.take m)).Nodup := by
    intro m
    induction m with
    | zero => intro _; simp [occF]
    | succ m ih =>
      intro hm
      have hc : cs[m]? = some cs[m] := List.getElem?_eq_getElem (by omega)
      have hcl := h cs[m] (List.getElem_mem _)
      rw [List.take_add_one, hc, Option.toList_some, occF_app, List.nodup_append]
      refine ⟨ih (by omega), ?_, ?_⟩
      · have hnd : cs[m].Nodup := hcl.1.imp fun h => Int.ne_of_lt h
        have hf : (cs[m].filter fun l => !decide (absI l ∈ occF (cs.take m))).Nodup := hnd.filter _
        rw [List.nodup_iff_pairwise_ne, List.pairwise_map]
        have hp := List.nodup_iff_pairwise_ne.mp hf
        refine (List.Pairwise.and_mem.mp hp).imp fun {a b} ⟨h1, h2, h3⟩ e => h3 (absI_inj hcl (List.mem_filter.mp h1).1 (List.mem_filter.mp h2).1 e)
      · rintro a ha b hb rfl
        obtain ⟨l, hl, rfl⟩ := List.mem_map.mp hb
        have := (List.mem_filter.mp hl).2
        simp [ha] at this
  have := key cs.length (Nat.le_refl _)
  rwa [List.take_length] at this
theorem occ_vars {n : Nat} {cs : List (List Int)} (h : ∀ c ∈ cs, Cl n c) : sortI (occF cs) = vars cs := by
  unfold vars
  refine ssI_eq ?_ fun v => by rw [sortI_mem]; exact occF_mem cs v
  have h3 := sortI_pw (occF cs)
  have h4 : (sortI (occF cs)).Nodup := (sortI_perm _).nodup_iff.mpr (occF_nodup h)
  refine (h3.and h4).imp fun {a b} h => ?_
  have e1 := h.1; have e2 := h.2
  omega
theorem occF_len (cs : List (List Int)) : (occF cs).length ≤ (cs.flatMap fun c => c.map absI).length := by
  have key : ∀ m, m ≤ cs.length → (occF (cs.take m)).length ≤ ((cs.take m).flatMap fun c => c.map absI).length := by
    intro m
    induction m with
    | zero => intro _; simp [occF]
    | succ m ih =>
      intro hm
      have hc : cs[m]? = some cs[m] := List.getElem?_eq_getElem (by omega)
      rw [List.take_add_one, hc, Option.toList_some, occF_app, List.flatMap_append, List.length_append, List.length_append, List.length_map]
      have h1 := List.length_filter_le (fun l => !decide (absI l ∈ occF (cs.take m))) cs[m]
      have h2 := ih (by omega)
      simp only [List.flatMap_cons, List.flatMap_nil, List.append_nil, List.length_map]
      omega
  have := key cs.length (Nat.le_refl _)
  rwa [List.take_length] at this
theorem Fm.take {n : Nat} {cs : List (List Int)} (h : Fm n cs) (m : Nat) : Fm n (cs.take m) := h.sub (by rw [List.length_take]; omega) fun c hc => List.mem_of_mem_take hc
def gateOf (cs : List (List Int)) (div : List Int) : Stp → Gt
  | .ax i => if decide ((i : Int) ∈ div) then .ff else .tt
  | .wk a _ => .same a
  | .res a b v => if decide ((v : Int) ∈ common cs div) then .choose v a b else if decide ((v : Int) ∈ vars (sideC cs div 2)) then .and a b else .or a b
def signs (vs : List Int) : List (List Int) := vs.foldl stepC [[]]
section
variable {X : Cx} {k : Nat}
theorem d_Locc (n : Nat) (cs : List (List Int)) (h : Fm n cs) [Fx X (defScope sL_occurring) nL_occurring k] [Fl X] : DS X [.dat (fD n cs), .any, .any, .any] (defBody sL_occurring) (EndK ([fD n cs].map .dat) (fun d => d = .list ((vars cs).map .int))) := by
  refine s_asg 1 rfl (e_lst (ds := []) a_nil) (s_forN 2 rfl (i_T (e_ixT (e_v 0 rfl rfl) e_int rfl)) (fun ds m ρ' => ∃ s, ρ' = [.dat (fD n cs), .dat (.list ((occF (cs.take m)).map .int)), s, .any]) (fun ds _ => ⟨_, rfl⟩) ?_ ?_)
  · rintro ds m d ρ' rfl hd ⟨s, rfl⟩
    rw [List.getElem?_map] at hd
    cases hc : cs[m]? with
    | none => rw [hc] at hd; cases hd
    | some c =>
      rw [hc] at hd
      cases hd
      have hl := occF_len (cs.take m)
      have hf := (h.take m).few.1
      have hcl := (h.2.2 c (List.mem_of_getElem? hc)).len
      refine s_asg 1 rfl (e_cat (e_v 1 rfl rfl) (e_lc (enc := .int) (xs := c) (f := fun l => !decide (absI l ∈ occF (cs.take m))) (g := fun l => .int (absI l)) 3 (i_T (e_v 2 rfl rfl)) rfl
        (fun s H C cl fp y fx' hy => ts_1 (t_niL (e_abs (e_v 3 rfl rfl)) (e_v 1 rfl rfl))) (fun s H C cl fp y fx' hy hf => e_abs (e_v 3 rfl rfl))) ?_) (s_nil ?_)
      · have h1 := List.length_filter_le (fun l => !decide (absI l ∈ occF (cs.take m))) c
        have := h.1
        rw [List.length_map, List.length_map, sizeLine_eq]; omega
      · show ∃ s, _ = _
        rw [List.take_add_one, hc, Option.toList_some, occF_app, List.map_append, List.map_map]
        exact ⟨_, rfl⟩
  · rintro ds ρ' rfl ⟨s, rfl⟩
    rw [List.length_map, List.take_length]
    exact s_ret (e_sortI (e_v 1 rfl rfl)) (end_d (by rw [occ_vars h.2.2]))
abbrev pLocc : Sp := spP (T := Nat × List (List Int)) (fun p => [fD p.1 p.2]) (fun p => Fm p.1 p.2) (fun p => .list ((vars p.2).map .int))
theorem Fm.z {n : Nat} {cs : List (List Int)} (h : Fm n cs) : cs.length ≤ 1000 := by have := h.2.1; omega
theorem d_Lcommon (n : Nat) (cs : List (List Int)) (div : List Int) (h : Fm n cs) [Fx X (defScope sL_common) nL_common k] [Fl X] (hk : 1 ≤ k) (h1 : Hs X "_law_side" 1 pLside) (h2 : Hs X "_law_occurring" 1 pLocc) :
    DS X [.dat (fD n cs), .dat (cD div), .any, .any] (defBody sL_common) (EndK ([fD n cs, cD div].map .dat) (fun d => d = .list ((common cs div).map .int))) :=
  s_asg 2 rfl (e_call h2 (n, sideC cs div 2) (a_d (e_call h1 (n, cs, div, 2) (a_d (e_v 0 rfl rfl) (a_d (e_v 1 rfl rfl) (a_d e_int a_nil))) h.z hk) a_nil) h.side hk)
    (s_ret (e_lc (enc := .int) (xs := vars (sideC cs div 1)) (f := fun v => decide (v ∈ vars (sideC cs div 2))) (g := PyData.int) 3 (i_L (e_call h2 (n, sideC cs div 1) (a_d (e_call h1 (n, cs, div, 1) (a_d (e_v 0 rfl rfl) (a_d (e_v 1 rfl rfl) (a_d e_int a_nil))) h.z hk) a_nil) h.side hk)) rfl
      (fun s H C cl fp y fx' hy => ts_1 (t_inL (e_v 3 rfl rfl) (e_v 2 rfl rfl))) (fun s H C cl fp y fx' hy hf => e_v 3 rfl rfl)) (end_d rfl))
theorem d_Lgate (n : Nat) (cs : List (List Int)) (div : List Int) (s : Stp) (h : Fm n cs) [Fx X (defScope sL_gate) nL_gate k] [Fl X] (hk : 2 ≤ k) (h1 : Hs X "_law_common" 2 pCommon) (h2 : Hs X "_law_side" 1 pLside) (h3 : Hs X "_law_occurring" 1 pLocc) :
    DS X [.dat (fD n cs), .dat (cD div), .dat (sD s), .dat (.str "need"), .any] (defBody sL_gate) (EndK ([fD n cs, cD div, sD s, .str "need"].map .dat) (fun d => d = gD (needG (gateOf cs div s)))) := by
  cases s with
  | ax i =>
    refine s_ifTR (t_T (t_eqS (e_ixT (e_v 2 rfl rfl) e_int rfl) e_str) (by decide +kernel)) (s_ret (e_if (t_inT (e_ixT (e_v 2 rfl rfl) e_int rfl) (e_v 1 rfl rfl)) (fun _ => e_tup (ds := [.str "false"]) (a_d e_str a_nil)) (fun _ => e_tup (ds := [.str "true"]) (a_d e_str a_nil))) (end_d ?_))
    simp only [gateOf]
    split <;> rfl
  | wk a c => exact s_ifF0 (t_F (t_eqS (e_ixT (e_v 2 rfl rfl) e_int rfl) e_str) (by decide +kernel)) (s_ifTR (t_T (t_eqS (e_ixT (e_v 2 rfl rfl) e_int rfl) e_str) (by decide +kernel)) (s_ret (e_tup (ds := [.str "same", .int a]) (a_d e_str (a_d (e_ixT (e_v 2 rfl rfl) e_int rfl) a_nil))) (end_d rfl)))
  | res a b v =>
    refine s_ifF0 (t_F (t_eqS (e_ixT (e_v 2 rfl rfl) e_int rfl) e_str) (by decide +kernel)) (s_ifF0 (t_F (t_eqS (e_ixT (e_v 2 rfl rfl) e_int rfl) e_str) (by decide +kernel)) (s_asg 4 rfl (e_ixT (e_v 2 rfl rfl) e_int rfl) (s_ifR (t_inL (e_v 4 rfl rfl) (e_call h1 (n, cs, div) (a_d (e_v 0 rfl rfl) (a_d (e_v 1 rfl rfl) a_nil)) h hk))
      (fun hb => s_ret (e_tup (ds := [.str "need", .int v, .int a, .int b]) (a_d (e_v 3 rfl rfl) (a_d (e_v 4 rfl rfl) (a_d (e_ixT (e_v 2 rfl rfl) e_int rfl) (a_d (e_ixT (e_v 2 rfl rfl) e_int rfl) a_nil))))) (end_d ?_))
      (fun hb => s_ifR (t_inL (e_v 4 rfl rfl) (e_call h3 (n, sideC cs div 2) (a_d (e_call h2 (n, cs, div, 2) (a_d (e_v 0 rfl rfl) (a_d (e_v 1 rfl rfl) (a_d e_int a_nil))) h.z (by omega)) a_nil) h.side (by omega)))
        (fun hb2 => s_ret (e_tup (ds := [.str "and", .int a, .int b]) (a_d e_str (a_d (e_ixT (e_v 2 rfl rfl) e_int rfl) (a_d (e_ixT (e_v 2 rfl rfl) e_int rfl) a_nil)))) (end_d ?_))
        (fun hb2 => s_ret (e_tup (ds := [.str "or", .int a, .int b]) (a_d e_str (a_d (e_ixT (e_v 2 rfl rfl) e_int rfl) (a_d (e_ixT (e_v 2 rfl rfl) e_int rfl) a_nil)))) (end_d ?_))))))
    · simp only [gateOf]; rw [if_pos hb]; rfl
    · simp only [gateOf]; rw [if_neg (by rw [hb]; exact Bool.false_ne_true), if_pos hb2]; rfl
    · simp only [gateOf]; rw [if_neg (by rw [hb]; exact Bool.false_ne_true), if_neg (by rw [hb2]; exact Bool.false_ne_true)]; rfl
abbrev pLgate : Sp := spP (T := Nat × List (List Int) × List Int × Stp) (fun p => [fD p.1 p.2.1, cD p.2.2.1, sD p.2.2.2, .str "need"]) (fun p => Fm p.1 p.2.1) (fun p => gD (needG (gateOf p.2.1 p.2.2.1 p.2.2.2)))
end
end Rb
/-! the law's values, signs, left, rising, names -/
namespace Rb
open PySem PySem.Spec L2
section
variable {X : Cx} {ρ : List Sl} {c : Expr} {sts body els : List Stmt} {pos : Pos} {P : Out → Prop}
theorem s_ifB {bb : Bool} (hc : DT X ρ c bb) (ha : bb = true → DS X ρ body (Nx X sts P)) (hb : bb = false → DS X ρ els (Nx X sts P)) : DS X ρ (.If c body els pos :: sts) P :=
  s_if (Pm := Nx X sts P) hc (fun h => ha h.symm) (fun h => hb h.symm) (fun ρ' h => h) (fun d ρ' h => h)
end
section
variable {X : Cx} {k : Nat}
theorem d_Lvalues (gs : List Gt) (cube : List Int) (h : GsOk gs) (hz : gs.length ≤ 1000) [Fx X (defScope sL_values) nL_values k] [Fl X] :
    DS X [.dat (.tuple (gs.map gD)), .dat (cD cube), .any, .any] (defBody sL_values) (EndK ([.tuple (gs.map gD), cD cube].map .dat) (fun d => d = .list ((gvals cube gs).map .bool))) := by
  refine s_new 2 rfl fun A => s_forN 3 rfl (i_T (e_v 0 rfl rfl)) (fun ds m ρ' => ∃ s, ρ' = [.dat (.tuple (gs.map gD)), .dat (cD cube), .own A (fun y => y = (gvals cube (gs.take m)).map .bool), s]) (fun ds hd => ⟨.any, rfl⟩) ?_ ?_
  · rintro ds m d ρ' rfl hd ⟨s, rfl⟩
    rw [List.getElem?_map] at hd
    cases hg : gs[m]? with
    | none => rw [hg] at hd; cases hd
    | some g =>
      rw [hg] at hd
      cases hd
      have hok := (h m g hg).1
      have hm : m < gs.length := (List.getElem?_eq_some_iff.mp hg).1
      have hl : (gvals cube (gs.take m)).length = m := by rw [gvals_len, List.length_take]; omega
      have ha : gvals cube (gs.take (m + 1)) = gvals cube (gs.take m) ++ [gval (gvals cube (gs.take m)) cube g] := by rw [List.take_add_one, hg]; exact gvals_app _ _ _
      have hz2 : ((gvals cube (gs.take m)).map PyData.bool).length < sizeLine := by rw [List.length_map, hl, sizeLine_eq]; omega
      have fin : ∀ {b : Bool} {t : Sl}, b = gval (gvals cube (gs.take m)) cube g → ∃ s, [Sl.dat (.tuple (gs.map gD)), .dat (cD cube), .own A (fun y : List PyData => y = (gvals cube (gs.take m)).map PyData.bool ++ [.bool b]), t] = [.dat (.tuple (gs.map gD)), .dat (cD cube), .own A (fun y => y = (gvals cube (gs.take (m + 1))).map PyData.bool), s] := fun {b t} hb => ⟨t, by rw [ha, hb, List.map_append]; rfl⟩
      generalize hfv : gvals cube (gs.take m) = fv at *
      cases g with
      | ff => exact s_ifT (t_T (t_inS (ss := ["true", "false"]) (e_ixT (e_v 3 rfl rfl) e_int rfl) (e_tup (ds := [.str "true", .str "false"]) (a_d e_str (a_d e_str a_nil)))) (by decide +kernel)) (s_app 2 rfl rfl (e_eqS (e_ixT (e_v 3 rfl rfl) e_int rfl) e_str) hz2 (s_nil (s_nil (fin (by simp only [gval]; decide +kernel)))))
      | tt => exact s_ifT (t_T (t_inS (ss := ["true", "false"]) (e_ixT (e_v 3 rfl rfl) e_int rfl) (e_tup (ds := [.str "true", .str "false"]) (a_d e_str (a_d e_str a_nil)))) (by decide +kernel)) (s_app 2 rfl rfl (e_eqS (e_ixT (e_v 3 rfl rfl) e_int rfl) e_str) hz2 (s_nil (s_nil (fin (by simp only [gval]; decide +kernel)))))
      | same a => exact s_ifF (t_F (t_inS (ss := ["true", "false"]) (e_ixT (e_v 3 rfl rfl) e_int rfl) (e_tup (ds := [.str "true", .str "false"]) (a_d e_str (a_d e_str a_nil)))) (by decide +kernel)) (s_ifT (t_T (t_eqS (e_ixT (e_v 3 rfl rfl) e_int rfl) e_str) (by decide +kernel))
          (s_app 2 rfl rfl (e_ixO 2 rfl rfl (e_ixT (e_v 3 rfl rfl) e_int rfl) (atB (by rw [hl]; exact hok))) hz2 (s_nil (s_nil (s_nil (fin rfl))))))
      | or a b => exact s_ifF (t_F (t_inS (ss := ["true", "false"]) (e_ixT (e_v 3 rfl rfl) e_int rfl) (e_tup (ds := [.str "true", .str "false"]) (a_d e_str (a_d e_str a_nil)))) (by decide +kernel)) (s_ifF (t_F (t_eqS (e_ixT (e_v 3 rfl rfl) e_int rfl) e_str) (by decide +kernel)) (s_ifT (t_T (t_eqS (e_ixT (e_v 3 rfl rfl) e_int rfl) e_str) (by decide +kernel))
          (s_app 2 rfl rfl (e_or (e_ixO 2 rfl rfl (e_ixT (e_v 3 rfl rfl) e_int rfl) (atB (by rw [hl]; exact hok.1))) (fun _ => e_1 (e_ixO 2 rfl rfl (e_ixT (e_v 3 rfl rfl) e_int rfl) (atB (by rw [hl]; exact hok.2))))) hz2 (s_nil (s_nil (s_nil (s_nil (fin rfl))))))))
      | and a b => exact s_ifF (t_F (t_inS (ss := ["true", "false"]) (e_ixT (e_v 3 rfl rfl) e_int rfl) (e_tup (ds := [.str "true", .str "false"]) (a_d e_str (a_d e_str a_nil)))) (by decide +kernel)) (s_ifF (t_F (t_eqS (e_ixT (e_v 3 rfl rfl) e_int rfl) e_str) (by decide +kernel)) (s_ifF (t_F (t_eqS (e_ixT (e_v 3 rfl rfl) e_int rfl) e_str) (by decide +kernel)) (s_ifT (t_T (t_eqS (e_ixT (e_v 3 rfl rfl) e_int rfl) e_str) (by decide +kernel))
          (s_app 2 rfl rfl (e_and (e_ixO 2 rfl rfl (e_ixT (e_v 3 rfl rfl) e_int rfl) (atB (by rw [hl]; exact hok.1))) (fun _ => e_1 (e_ixO 2 rfl rfl (e_ixT (e_v 3 rfl rfl) e_int rfl) (atB (by rw [hl]; exact hok.2))))) hz2 (s_nil (s_nil (s_nil (s_nil (s_nil (fin rfl))))))))))
      | need v a b => exact s_ifF (t_F (t_inS (ss := ["true", "false"]) (e_ixT (e_v 3 rfl rfl) e_int rfl) (e_tup (ds := [.str "true", .str "false"]) (a_d e_str (a_d e_str a_nil)))) (by decide +kernel)) (s_ifF (t_F (t_eqS (e_ixT (e_v 3 rfl rfl) e_int rfl) e_str) (by decide +kernel)) (s_ifF (t_F (t_eqS (e_ixT (e_v 3 rfl rfl) e_int rfl) e_str) (by decide +kernel)) (s_ifF (t_F (t_eqS (e_ixT (e_v 3 rfl rfl) e_int rfl) e_str) (by decide +kernel)) (s_ifF (t_F (t_eqS (e_ixT (e_v 3 rfl rfl) e_int rfl) e_str) (by decide +kernel))
          (s_app 2 rfl rfl (e_and (e_ixO 2 rfl rfl (e_ixT (e_v 3 rfl rfl) e_int rfl) (atB (by rw [hl]; exact hok.2))) (fun _ => e_1 (e_or (e_inT (e_ixT (e_v 3 rfl rfl) e_int rfl) (e_v 1 rfl rfl)) (fun _ => e_1 (e_ixO 2 rfl rfl (e_ixT (e_v 3 rfl rfl) e_int rfl) (atB (by rw [hl]; exact hok.1))))))) hz2 (s_nil (s_nil (s_nil (s_nil (s_nil (s_nil (fin rfl))))))))))))
      | choose v a b => exact absurd rfl ((h m _ hg).2 v a b)
  · rintro ds ρ' rfl ⟨s, rfl⟩
    rw [List.length_map, List.take_length]
    exact s_frz 2 rfl (s_ret (e_v 2 rfl rfl) (end_d rfl))
theorem foldl_stepC_take (vs : List Int) {m : Nat} {v : Int} (h : vs[m]? = some v) : signs (vs.take (m + 1)) = stepC (signs (vs.take m)) v := by
  unfold signs
  rw [List.take_add_one, h, Option.toList_some, List.foldl_append]
  rfl
theorem signs_len (vs : List Int) : (signs vs).length = 2 ^ vs.length := by
  have key : ∀ m, m ≤ vs.length → (signs (vs.take m)).length = 2 ^ m := by
    intro m
    induction m with
    | zero => intro _; rfl
    | succ m ih =>
      intro hm
      rw [foldl_stepC_take vs (List.getElem?_eq_getElem (by omega)), stepC_len, ih (by omega), Nat.pow_succ]
      omega
  have := key vs.length (Nat.le_refl _)
  rwa [List.take_length] at this
theorem signs_small (vs : List Int) : ∀ c ∈ signs vs, c.length ≤ vs.length := by
  have key : ∀ m, m ≤ vs.length → ∀ c ∈ signs (vs.take m), c.length ≤ m := by
    intro m
    induction m with
    | zero => intro _ c hc; cases hc with | head => exact Nat.le_refl _ | tail _ h => cases h
    | succ m ih =>
      intro hm c hc
      rw [foldl_stepC_take vs (List.getElem?_eq_getElem (by omega))] at hc
      exact stepC_small (ih (by omega)) c hc
  have := key vs.length (Nat.le_refl _)
  rwa [List.take_length] at this
theorem d_Lsigns (vs : List Int) (hn : vs.length ≤ 10) [Fx X (defScope sL_signs) nL_signs k] [Fl X] (hk : 1 ≤ k) (h1 : Hs X "_law_with" 1 pWith) : DS X [.dat (.list (vs.map .int)), .any, .any, .any, .any] (defBody sL_signs) (EndK ([.list (vs.map .int)].map .dat) (fun d => d = .list ((signs vs).map cD))) := by
  have hp : ∀ m, m ≤ vs.length → (signs (vs.take m)).length ≤ 1024 := fun m hm => by
    rw [signs_len, List.length_take]
    exact Nat.le_trans (Nat.pow_le_pow_right (by decide) (by omega : min m vs.length ≤ 10)) (by decide)
  refine s_asg 1 rfl (e_lst (ds := [cD []]) (a_d (e_tup (ds := []) a_nil) a_nil)) (s_forN 2 rfl (i_L (e_v 0 rfl rfl)) (fun ds m ρ' => ∃ s2 s3 s4, ρ' = [.dat (.list (vs.map .int)), .dat (.list ((signs (vs.take m)).map cD)), s2, s3, s4]) (fun ds _ => ⟨_, _, _, rfl⟩) ?_ ?_)
  · rintro ds m d ρ' rfl hd ⟨s2, s3, s4, rfl⟩
    rw [List.getElem?_map] at hd
    cases hv : vs[m]? with
    | none => rw [hv] at hd; cases hd
    | some v =>
      rw [hv] at hd
      cases hd
      have hm : m < vs.length := (List.getElem?_eq_some_iff.mp hv).1
      have hl := hp m (by omega)
      refine s_asg 3 rfl (e_lst (ds := []) a_nil) (s_forN 4 rfl (i_L (e_v 1 rfl rfl)) (fun ds j ρ' => ∃ s4, ρ' = [.dat (.list (vs.map .int)), .dat (.list ((signs (vs.take m)).map cD)), .dat (.int v), .dat (.list ((stepC ((signs (vs.take m)).take j) v).map cD)), s4]) (fun ds _ => ⟨_, rfl⟩) ?_ ?_)
      · rintro ds j d ρ' rfl hd ⟨s4, rfl⟩
        rw [List.getElem?_map] at hd
        cases hc : (signs (vs.take m))[j]? with
        | none => rw [hc] at hd; cases hd
        | some c =>
          rw [hc] at hd
          cases hd
          have hcl : c.length ≤ 1000 := by have := signs_small _ c (List.mem_of_getElem? hc); rw [List.length_take] at this; omega
          refine s_asg 3 rfl (e_cat (e_v 3 rfl rfl) (e_lst (ds := [cD (withC c (-v)), cD (withC c v)]) (a_d (e_call h1 (c, -v) (a_d (e_v 4 rfl rfl) (a_d (e_neg (e_v 2 rfl rfl)) a_nil)) hcl hk) (a_d (e_call h1 (c, v) (a_d (e_v 4 rfl rfl) (a_d (e_v 2 rfl rfl) a_nil)) hcl hk) a_nil))) ?_) (s_nil ?_)
          · rw [List.length_map, stepC_len, List.length_take, sizeLine_eq]; simp; omega
          · show ∃ s4, _ = _
            rw [List.take_add_one, hc, Option.toList_some, stepC_app, List.map_append]
            exact ⟨_, rfl⟩
      · rintro ds ρ' rfl ⟨s4, rfl⟩
        rw [List.length_map, List.take_length]
        refine s_asg 1 rfl (e_v 3 rfl rfl) (s_nil ?_)
        show ∃ s2 s3 s4, _ = _
        rw [foldl_stepC_take vs hv]
        exact ⟨_, _, _, rfl⟩
  · rintro ds ρ' rfl ⟨s2, s3, s4, rfl⟩
    rw [List.length_map, List.take_length]
    exact s_ret (e_v 1 rfl rfl) (end_d rfl)
abbrev pLsigns : Sp := spP (T := List Int) (fun vs => [.list (vs.map .int)]) (fun vs => vs.length ≤ 10) (fun vs => .list ((signs vs).map cD))
def rowsF (cs : List (List Int)) (cube : List Int) : List (List Int) := (cs.filter fun c => !sat cube c).map fun c => leftOver c cube
theorem d_Lleft (n : Nat) (cs : List (List Int)) (cube : List Int) (hz : cs.length < 64) [Fx X (defScope sL_left) nL_left k] [Fl X] : DS X [.dat (fD n cs), .dat (cD cube), .any, .any, .any] (defBody sL_left) (EndK ([fD n cs, cD cube].map .dat) (fun d => d = fD n (restr cs cube))) := by
  have hlen : ∀ ds : List (List Int), (rowsF ds cube).length ≤ ds.length := fun ds => by unfold rowsF; rw [List.length_map]; exact List.length_filter_le _ _
  refine s_new 2 rfl fun A => s_forN 3 rfl (i_T (e_ixT (e_v 0 rfl rfl) e_int rfl)) (fun ds m ρ' => ∃ s, ρ' = [.dat (fD n cs), .dat (cD cube), .own A (fun y => y = (rowsF (cs.take m) cube).map cD), s, .any]) (fun ds _ => ⟨_, rfl⟩) ?_ ?_
  · rintro ds m d ρ' rfl hd ⟨s, rfl⟩
    rw [List.getElem?_map] at hd
    cases hc : cs[m]? with
    | none => rw [hc] at hd; cases hd
    | some c =>
      rw [hc] at hd
      cases hd
      have hs : rowsF (cs.take (m + 1)) cube = rowsF (cs.take m) cube ++ (if sat cube c then [] else [leftOver c cube]) := by
        unfold rowsF
        rw [List.take_add_one, hc, Option.toList_some, List.filter_append, List.map_append]
        congr 1
        cases hs : sat cube c <;> simp [hs]
      refine s_ifB (bb := !sat cube c) (DT.to (t_eq (e_lenL (e_lc (enc := .int) (xs := c) (f := fun l => decide (l ∈ cube)) (g := PyData.int) 4 (i_T (e_v 3 rfl rfl)) rfl
        (fun s H C cl fp y fx' hy => ts_1 (t_inT (e_v 4 rfl rfl) (e_v 1 rfl rfl))) (fun s H C cl fp y fx' hy hf => e_v 4 rfl rfl))) e_int) (by
          unfold sat; rw [List.length_map]
          by_cases q : 0 < (c.filter fun l => decide (l ∈ cube)).length
          · rw [decide_eq_true q, decide_eq_false (by omega)]; rfl
          · rw [decide_eq_false q, decide_eq_true (by omega)]; rfl)) (fun hb => ?_) (fun hb => ?_)
      · have hsat : sat cube c = false := by simpa using hb
        refine s_app 2 rfl rfl (d := cD (leftOver c cube)) (e_tupL (e_lc (enc := .int) (xs := c) (f := fun l => !decide (-l ∈ cube)) (g := PyData.int) 4 (i_T (e_v 3 rfl rfl)) rfl
          (fun s H C cl fp y fx' hy => ts_1 (t_niT (e_neg (e_v 4 rfl rfl)) (e_v 1 rfl rfl))) (fun s H C cl fp y fx' hy hf => e_v 4 rfl rfl))) ?_ (s_nil (s_nil ?_))
        · have := hlen (cs.take m)
          rw [List.length_take] at this
          rw [List.length_map, sizeLine_eq]; omega
        · show ∃ s, _ = _
          rw [hs, hsat, if_neg Bool.false_ne_true, List.map_append]
          exact ⟨_, rfl⟩
      · have hsat : sat cube c = true := by simpa using hb
        refine s_nil (s_nil ?_)
        show ∃ s, _ = _
        rw [hs, hsat, if_pos rfl, List.append_nil]
        exact ⟨_, rfl⟩
  · rintro ds ρ' rfl ⟨s, rfl⟩
    rw [List.length_map, List.take_length]
    exact s_frz 2 rfl (s_ret (e_tup (ds := [.int n, .tuple ((restr cs cube).map cD)]) (a_d (e_ixT (e_v 0 rfl rfl) e_int rfl) (a_d (e_tupL (e_ssC (cs := rowsF cs cube) (e_v 2 rfl rfl) (Nat.lt_of_le_of_lt (hlen cs) hz))) a_nil))) (end_d rfl))
abbrev pLleft : Sp := spP (T := Nat × List (List Int) × List Int) (fun p => [fD p.1 p.2.1, cD p.2.2]) (fun p => p.2.1.length < 64) (fun p => fD p.1 (restr p.2.1 p.2.2))
theorem d_LisRising (n : Nat) (cs : List (List Int)) (div : List Int) (h : Fm n cs) [Fx X (defScope sL_is_rising) nL_is_rising k] [Fl X] (hk : 2 ≤ k) (h1 : Hs X "_law_side" 1 pLside) (h2 : Hs X "_law_common" 2 pCommon) :
    DS X [.dat (fD n cs), .dat (cD div), .any, .any, .any] (defBody sL_is_rising) (EndK ([fD n cs, cD div].map .dat) (fun d => d = .bool (rising cs div))) := by
  refine s_asg 2 rfl (e_call h2 (n, cs, div) (a_d (e_v 0 rfl rfl) (a_d (e_v 1 rfl rfl) a_nil)) h hk) (s_forN 3 rfl (i_T (e_ixT (e_call h1 (n, cs, div, 1) (a_d (e_v 0 rfl rfl) (a_d (e_v 1 rfl rfl) (a_d e_int a_nil))) h.z (by omega)) e_int rfl))
    (fun ds m ρ' => (∃ s, ρ' = [.dat (fD n cs), .dat (cD div), .dat (.list ((common cs div).map .int)), s, .any]) ∧ ∀ c ∈ (sideC cs div 1).take m, (c.filter fun l => decide (-l ∈ common cs div)).isEmpty = true) (fun ds hd => ⟨⟨_, rfl⟩, fun c hc => by cases hc⟩) ?_ ?_)
  · rintro ds m d ρ' rfl hd ⟨⟨s, rfl⟩, hall⟩
    rw [List.getElem?_map] at hd
    cases hc : (sideC cs div 1)[m]? with
    | none => rw [hc] at hd; cases hd
    | some c =>
      rw [hc] at hd
      cases hd
      refine s_ifR (t_gt (e_lenL (e_lc (enc := .int) (xs := c) (f := fun l => decide (-l ∈ common cs div)) (g := PyData.int) 4 (i_T (e_v 3 rfl rfl)) rfl
        (fun s H C cl fp y fx' hy => ts_1 (t_inL (e_neg (e_v 4 rfl rfl)) (e_v 2 rfl rfl))) (fun s H C cl fp y fx' hy hf => e_v 4 rfl rfl))) e_int)
        (fun hb => s_ret e_bl (end_d ?_)) (fun hb => s_nil ⟨⟨_, rfl⟩, fun c' hc' => ?_⟩)
      · have hn : rising cs div = false := by
          unfold rising
          rw [List.all_eq_false]
          refine ⟨c, List.mem_of_getElem? hc, fun he => ?_⟩
          rw [List.isEmpty_iff.mp he] at hb
          exact absurd hb (by decide)
        rw [hn]
      · rw [List.take_add_one, hc] at hc'
        rcases List.mem_append.mp hc' with h' | h'
        · exact hall c' h'
        · simp at h'
          subst h'
          have := of_decide_eq_false hb
          rw [List.length_map] at this
          rw [List.isEmpty_iff]
          exact List.eq_nil_of_length_eq_zero (by omega)
  · rintro ds ρ' rfl ⟨⟨s, rfl⟩, hall⟩
    refine s_ret e_bl (end_d ?_)
    have hn : rising cs div = true := by
      unfold rising
      rw [List.all_eq_true]
      intro c hc
      exact hall c (by rw [List.length_map, List.take_length]; exact hc)
    rw [hn]
theorem d_Lnames (n : Nat) (cs : List (List Int)) (div : List Int) (h : Fm n cs) [Fx X (defScope sL_names) nL_names k] [Fl X] (hk : 2 ≤ k) (h1 : Hs X "_law_side" 1 pLside) (h2 : Hs X "_law_common" 2 pCommon) :
    DS X [.dat (fD n cs), .dat (cD div), .any, .any, .any, .any, .any] (defBody sL_names) (EndK ([fD n cs, cD div].map .dat) (fun d => d = cD (namesOf n cs div))) := by
  refine s_new 2 rfl fun A => s_asg 3 rfl (e_ixT (e_call h1 (n, cs, div, 1) (a_d (e_v 0 rfl rfl) (a_d (e_v 1 rfl rfl) (a_d e_int a_nil))) h.z (by omega)) e_int rfl) (s_asg 4 rfl (e_call h2 (n, cs, div) (a_d (e_v 0 rfl rfl) (a_d (e_v 1 rfl rfl) a_nil)) h hk)
    (s_forN 5 rfl (i_r1n (n := n) e_int (e_add (e_ixT (e_v 0 rfl rfl) e_int rfl) e_int) (by have := h.1; omega))
      (fun ds m ρ' => ∃ s, ρ' = [.dat (fD n cs), .dat (cD div), .own A (fun y => y = ((namesOf n cs div).take m).map .int), .dat (.tuple ((sideC cs div 1).map cD)), .dat (.list ((common cs div).map .int)), s, .any]) (fun ds _ => ⟨_, rfl⟩) ?_ ?_))
  · rintro ds m d ρ' rfl hm ⟨s, rfl⟩
    have hmn : m < n := by have := (List.getElem?_eq_some_iff.mp hm).1; simpa using this
    rw [List.getElem?_map, List.getElem?_range hmn] at hm
    cases hm
    have hnm : (namesOf n cs div)[m]? = some (nameV cs div (1 + (m : Nat))) := by unfold namesOf; rw [List.getElem?_map, List.getElem?_range hmn]; rfl
    refine s_app 2 rfl rfl (DE.to (d' := .int (nameV cs div (1 + (m : Int)))) (e_if (t_and (t_inL (e_v 5 rfl rfl) (e_v 4 rfl rfl)) fun _ => t_eq (e_lenL (e_lc (enc := cD) (xs := sideC cs div 1) (f := fun c => decide (1 + (m : Int) ∈ c)) (g := cD) 6 (i_T (e_v 3 rfl rfl)) rfl (fun s H C cl fp y fx' hy => ts_1 (t_inT (e_v 5 rfl rfl) (e_v 6 rfl rfl))) (fun s H C cl fp y fx' hy hf => e_v 6 rfl rfl))) e_int) (fun _ => e_neg (e_v 5 rfl rfl)) (fun _ => e_v 5 rfl rfl)) ?_) ?_ (s_nil ?_)
    · unfold nameV
      rw [List.length_map]
      have e : decide ((((sideC cs div 1).filter fun c => decide (1 + (m : Int) ∈ c)).length : Int) = 0) = decide (((sideC cs div 1).filter fun c => decide (1 + (m : Int) ∈ c)).length = 0) := by
        rw [decide_eq_decide]; omega
      rw [e]
      split <;> rfl
    · rw [List.length_map, List.length_take, namesOf_len, sizeLine_eq]; have := h.1; omega
    · show ∃ s, _ = _
      rw [List.take_add_one, hnm, List.map_append]
      exact ⟨_, rfl⟩
  · rintro ds ρ' rfl ⟨s, rfl⟩
    rw [show (List.map (fun i : Nat => PyData.int (1 + (i : Nat))) (List.range n)).length = (namesOf n cs div).length by rw [List.length_map, List.length_range, namesOf_len], List.take_length]
    exact s_frz 2 rfl (s_ret (e_tupL (e_v 2 rfl rfl)) (end_d rfl))
abbrev pLnames : Sp := spP (T := Nat × List (List Int) × List Int) (fun p => [fD p.1 p.2.1, cD p.2.2]) (fun p => Fm p.1 p.2.1) (fun p => cD (namesOf p.1 p.2.1 p.2.2))
theorem d_Lnamed (c ns : List Int) (h : ∀ l ∈ c, NamesOk ns l) [Fx X (defScope sL_named) nL_named k] [Fl X] : DS X [.dat (cD ns), .dat (cD c), .any] (defBody sL_named) (EndK ([cD ns, cD c].map .dat) (fun d => d = cD (renC ns c))) :=
  s_ret (e_tupL (e_sortI (ns := c.map (nameOf ns)) (DE.to (e_lc0 (enc := .int) (xs := c) (g := fun l => .int (nameOf ns l)) 2 (i_T (e_v 1 rfl rfl)) rfl
    (fun s H C cl fp y fx' hy => DE.to (e_if (t_gt (e_v 2 rfl rfl) e_int)
      (fun h' => e_ixN (w := true) (ns := ns) (e_v 0 rfl rfl) (e_sub (e_v 2 rfl rfl) e_int) (by have := h y hy; unfold NamesOk at this; have h2 := of_decide_eq_true h'; exact atI_lt (by omega) (by omega)))
      (fun h' => e_neg (e_ixN (w := true) (ns := ns) (e_v 0 rfl rfl) (e_sub (e_neg (e_v 2 rfl rfl)) e_int) (by have := h y hy; unfold NamesOk at this; have h2 := of_decide_eq_false h'; exact atI_lt (by omega) (by omega)))))
      (by unfold nameOf; by_cases q : 0 < y <;> simp [q]))) (by rw [List.map_map]; rfl)))) (end_d rfl)
abbrev pLnamed : Sp := spP (T := List Int × List Int) (fun p => [cD p.1, cD p.2]) (fun p => ∀ l ∈ p.2, NamesOk p.1 l) (fun p => cD (renC p.1 p.2))
end
end Rb
/-! the law's same, next, clauses, refutation, width -/
namespace Rb
open PySem PySem.Spec L2
section
variable {X : Cx} {ρ : List Sl} {a b : Expr} {pos : Pos} {z y : Str}
theorem t_neS (ha : DE X ρ a (.str z)) (hb : DE X ρ b (.str y)) : DT X ρ (.Compare a [.NotEq] [b] pos) (!decide (z = y)) := DQ.cmp op_ne ha hb (s2_ne (fun _ _ h => h.str_inv) (fun _ _ h => h.str_inv) rfl dec_s).bq (nomark _)
end
def Atom : PyData → Prop
  | .int _ => True
  | .bool _ => True
  | .str _ => True
  | _ => False
def SameOk : Nat → PyData → Prop
  | 0, d => Atom d
  | m + 1, d => Atom d ∨ ∃ xs, d = .tuple xs ∧ xs.length ≤ 100000 ∧ ∀ x ∈ xs, SameOk m x
abbrev pSame (m : Nat) : Sp := spP (T := PyData) (fun d => [d, d]) (fun d => SameOk m d) (fun _ => .bool true)
section
variable {X : Cx} {k : Nat}
theorem d_same0 (d : PyData) (h : Atom d) [Fx X (defScope sL_same) nL_same k] [Fl X] : DS X [.dat d, .dat d, .any] (defBody sL_same) (EndK ([d, d].map .dat) (fun r => r = .bool true)) := by
  cases d with
  | int i => exact s_ifF0 (t_F (t_or (t_val (e_isi (e_v 1 rfl rfl) b_tuple (k_tuple rfl))) fun _ => t_val (e_isi (e_v 1 rfl rfl) b_list (k_list rfl))) rfl) (s_ifF0 (t_F (t_isN (e_v 1 rfl rfl)) rfl) (s_ifF0 (t_F (t_val (e_isi (e_v 1 rfl rfl) b_bool (k_bool rfl))) rfl) (s_ifTR (t_T (t_val (e_isi (e_v 1 rfl rfl) b_int (k_int rfl))) rfl)
      (s_ret (e_and (e_isi (e_v 0 rfl rfl) b_int (k_int rfl)) fun _ => e_and (e_not (e_isi (e_v 0 rfl rfl) b_bool (k_bool rfl))) fun _ => e_1 (e_eq (e_v 0 rfl rfl) (e_v 1 rfl rfl))) (end_d (by simp [isInt, isBool]))))))
  | bool i => exact s_ifF0 (t_F (t_or (t_val (e_isi (e_v 1 rfl rfl) b_tuple (k_tuple rfl))) fun _ => t_val (e_isi (e_v 1 rfl rfl) b_list (k_list rfl))) rfl) (s_ifF0 (t_F (t_isN (e_v 1 rfl rfl)) rfl) (s_ifTR (t_T (t_val (e_isi (e_v 1 rfl rfl) b_bool (k_bool rfl))) rfl)
      (s_ret (e_and (e_isi (e_v 0 rfl rfl) b_bool (k_bool rfl)) fun _ => e_1 (e_eqB (e_v 0 rfl rfl) (e_v 1 rfl rfl))) (end_d (by simp [isBool])))))
  | str i => exact s_ifF0 (t_F (t_or (t_val (e_isi (e_v 1 rfl rfl) b_tuple (k_tuple rfl))) fun _ => t_val (e_isi (e_v 1 rfl rfl) b_list (k_list rfl))) rfl) (s_ifF0 (t_F (t_isN (e_v 1 rfl rfl)) rfl) (s_ifF0 (t_F (t_val (e_isi (e_v 1 rfl rfl) b_bool (k_bool rfl))) rfl) (s_ifF0 (t_F (t_val (e_isi (e_v 1 rfl rfl) b_int (k_int rfl))) rfl)
      (s_ret (e_and (e_isi (e_v 0 rfl rfl) b_str (k_str rfl)) fun _ => e_1 (e_eqS (e_v 0 rfl rfl) (e_v 1 rfl rfl))) (end_d (by simp [isStr]))))))
  | none => exact h.elim
  | list _ => exact h.elim
  | tuple _ => exact h.elim
  | dict _ => exact h.elim
theorem d_same (m : Nat) (d : PyData) (h : SameOk m d) [Fx X (defScope sL_same) nL_same k] [Fl X] (hr : ∀ m', m = m' + 1 → m ≤ k ∧ Hs X "_law_same" m (pSame m')) : DS X [.dat d, .dat d, .any] (defBody sL_same) (EndK ([d, d].map .dat) (fun r => r = .bool true)) := by
  cases m with
  | zero => exact d_same0 d h
  | succ m =>
    rcases h with h | ⟨xs, rfl, hz, hx⟩
    · exact d_same0 d h
    · obtain ⟨hk, h1⟩ := hr m rfl
      refine s_ifTR (t_T (t_or (t_val (e_isi (e_v 1 rfl rfl) b_tuple (k_tuple rfl))) fun _ => t_val (e_isi (e_v 1 rfl rfl) b_list (k_list rfl))) rfl) (s_ifF0 (t_F (t_or (t_neB (e_isi (e_v 1 rfl rfl) b_tuple (k_tuple rfl)) (e_isi (e_v 0 rfl rfl) b_tuple (k_tuple rfl))) fun _ => t_neB (e_isi (e_v 1 rfl rfl) b_list (k_list rfl)) (e_isi (e_v 0 rfl rfl) b_list (k_list rfl))) rfl)
        (s_ifF0 (t_F (t_ne (e_lenT (e_v 0 rfl rfl)) (e_lenT (e_v 1 rfl rfl))) (by simp)) (s_forN 2 rfl (i_r0 (n := xs.length) (e_lenT (e_v 1 rfl rfl)) (by omega)) (fun ds j ρ' => ∃ s, ρ' = [.dat (.tuple xs), .dat (.tuple xs), s]) (fun ds _ => ⟨_, rfl⟩) ?_ ?_)))
      · rintro ds j d ρ' rfl hd ⟨s, rfl⟩
        have hj : j < xs.length := by have := (List.getElem?_eq_some_iff.mp hd).1; simpa using this
        rw [List.getElem?_map, List.getElem?_range hj] at hd
        cases hd
        have hat : atI xs ((j : Nat) : Int) = some xs[j] := atI_nn (List.getElem?_eq_getElem hj)
        exact s_ifF0 (t_F (t_not (t_val (e_call h1 xs[j] (a_d (e_ixT (e_v 0 rfl rfl) (e_v 2 rfl rfl) hat) (a_d (e_ixT (e_v 1 rfl rfl) (e_v 2 rfl rfl) hat) a_nil)) (hx _ (List.getElem_mem _)) hk))) rfl) (s_nil ⟨_, rfl⟩)
      · rintro ds ρ' rfl ⟨s, rfl⟩
        exact s_ret e_bl (end_d rfl)
/-! ### steps, as the law reads them -/
def Fits (n : Nat) (cs cls : List (List Int)) : Stp → List Int → Prop
  | .ax i, c => cs[i]? = some c
  | .wk a c', c => ∃ p, cls[a]? = some p ∧ (∀ l ∈ p, l ∈ c') ∧ c = c' ∧ Cl n c'
  | .res a b v, c => ∃ p q, cls[a]? = some p ∧ cls[b]? = some q ∧ 1 ≤ v ∧ (v : Int) ∈ p ∧ -(v : Int) ∈ q ∧ resolv p q v = some c ∧ p.length + q.length < 64
theorem within_iff {s l : List Int} : within s l = true ↔ ∀ x ∈ s, x ∈ l := by
  unfold within
  rw [decide_eq_true_iff, List.length_eq_zero_iff, List.filter_eq_nil_iff]
  exact ⟨fun h x hx => by simpa using h x hx, fun h x hx => by simpa using h x hx⟩
theorem at_get {cls : List (List Int)} {a : Nat} {p : List Int} (h : cls[a]? = some p) : atI (cls.map cD) (a : Int) = some (cD p) := by rw [atI_map, atI_nn h]; rfl
theorem d_Lnext (n : Nat) (cs cls : List (List Int)) (s : Stp) (c : List Int) (hn : n ≤ 100) (hf : Fits n cs cls s c) [Fx X (defScope sL_next) nL_next k] [Fl X] (hk : 2 ≤ k) (h1 : Hs X "_law_is_integer" 1 pLint) (h2 : Hs X "_law_is_clause" 2 pLclause) (h3 : Hs X "_law_within" 1 pWithin) :
    DS X [.dat (fD n cs), .dat (.list (cls.map cD)), .dat (sD s), .any, .any, .any, .any] (defBody sL_next) (EndK ([fD n cs, .list (cls.map cD), sD s].map .dat) (fun d => d = cD c)) := by
  have lenC : ∀ {ρ : List Sl} {e : Expr} {pos p : Pos}, DE X ρ e (.list (cls.map cD)) → (starEach [e] X.env = [(false, eval e X.env)]) → DE X ρ (.Call (.Name "len" p) [e] [] pos) (.int (cls.length : Nat)) := fun h hs => DE.to (e_lenL h (by decide +kernel) hs) (by rw [List.length_map])
  cases s with
  | ax i =>
    have hi : cs[i]? = some c := hf
    have hil := (List.getElem?_eq_some_iff.mp hi).1
    exact s_ifF0 (t_F (t_w (w_or (t_not (t_val (e_isi (e_v 2 rfl rfl) b_tuple (k_tuple rfl)))) fun _ => w_or (t_lt (e_lenT (e_v 2 rfl rfl)) e_int) fun _ => w_or (t_not (t_val (e_call h1 (.int i) (a_d (e_ixT (e_v 2 rfl rfl) e_int rfl) a_nil) rfl (by omega)))) fun _ => w_1o (t_lt (e_ixT (e_v 2 rfl rfl) e_int rfl) e_int))) (by simp [isTup, isInt, isBool, sD]))
      (s_ifTR (t_T (t_and (t_eq (e_lenT (e_v 2 rfl rfl)) e_int) fun _ => t_eqS (e_ixT (e_v 2 rfl rfl) e_int rfl) e_str) (and_T (by simp) (by decide +kernel)))
        (s_ret (e_ifT (t_T (t_lt (e_ixT (e_v 2 rfl rfl) e_int rfl) (e_lenT (e_ixT (e_v 0 rfl rfl) e_int rfl))) (by simp; exact hil)) (e_ixT (e_ixT (e_v 0 rfl rfl) e_int rfl) (e_ixT (e_v 2 rfl rfl) e_int rfl) (at_get hi))) (end_d rfl)))
  | wk a c' =>
    obtain ⟨p, hp, hsub, rfl, hcl⟩ := hf
    have hal := (List.getElem?_eq_some_iff.mp hp).1
    exact s_ifF0 (t_F (t_w (w_or (t_not (t_val (e_isi (e_v 2 rfl rfl) b_tuple (k_tuple rfl)))) fun _ => w_or (t_lt (e_lenT (e_v 2 rfl rfl)) e_int) fun _ => w_or (t_not (t_val (e_call h1 (.int a) (a_d (e_ixT (e_v 2 rfl rfl) e_int rfl) a_nil) rfl (by omega)))) fun _ => w_1o (t_lt (e_ixT (e_v 2 rfl rfl) e_int rfl) e_int))) (by simp [isTup, isInt, isBool, sD]))
      (s_ifF0 (t_F (t_and (t_eq (e_lenT (e_v 2 rfl rfl)) e_int) fun _ => t_eqS (e_ixT (e_v 2 rfl rfl) e_int rfl) e_str) (and_F (by decide +kernel)))
        (s_ifF0 (t_F (t_ge (e_ixT (e_v 2 rfl rfl) e_int rfl) (lenC (e_v 1 rfl rfl) rfl)) (by simp; omega))
          (s_ifTR (t_T (t_and (t_eq (e_lenT (e_v 2 rfl rfl)) e_int) fun _ => t_eqS (e_ixT (e_v 2 rfl rfl) e_int rfl) e_str) (and_T (by simp) (by decide +kernel)))
            (s_asg 3 rfl (d := .bool true) (DE.to (e_and (e_call h2 (n, c) (a_d (e_ixT (e_v 0 rfl rfl) e_int rfl) (a_d (e_ixT (e_v 2 rfl rfl) e_int rfl) a_nil)) ⟨hn, hcl⟩ hk) fun _ => e_1 (e_call h3 (p, c) (a_d (e_ixL (e_v 1 rfl rfl) (e_ixT (e_v 2 rfl rfl) e_int rfl) (at_get hp)) (a_d (e_ixT (e_v 2 rfl rfl) e_int rfl) a_nil)) trivial (by omega))) (by rw [within_iff.mpr hsub]; rfl))
              (s_ret (e_ifT (t_val (e_v 3 rfl rfl)) (e_ixT (e_v 2 rfl rfl) e_int rfl)) (end_d rfl))))))
  | res a b v =>
    obtain ⟨p, q, hp, hq, hv, hvp, hvq, hr, hz⟩ := hf
    have hal := (List.getElem?_eq_some_iff.mp hp).1
    have hbl := (List.getElem?_eq_some_iff.mp hq).1
    have hm : made ((p.filter fun a => !decide (a = (v : Int))) ++ (q.filter fun b => !decide (b = -(v : Int)))) = some c := by
      unfold resolv at hr
      rwa [if_pos (by simp [hvp, hvq])] at hr
    obtain ⟨h5, h6⟩ : ((((p.filter fun a => !decide (a = (v : Int))) ++ (q.filter fun b => !decide (b = -(v : Int)))).filter fun l => decide (-l ∈ ((p.filter fun a => !decide (a = (v : Int))) ++ (q.filter fun b => !decide (b = -(v : Int)))))).isEmpty = true) ∧ ssI ((p.filter fun a => !decide (a = (v : Int))) ++ (q.filter fun b => !decide (b = -(v : Int)))) = c := by
      unfold made at hm
      split at hm
      · exact ⟨by assumption, Option.some.inj hm⟩
      · cases hm
    have l1 := List.length_filter_le (fun a => !decide (a = (v : Int))) p
    have l2 := List.length_filter_le (fun b => !decide (b = -(v : Int))) q
    generalize hL : (p.filter fun a => !decide (a = (v : Int))) ++ (q.filter fun b => !decide (b = -(v : Int))) = L at h5 h6
    have hLz : L.length < 64 := by rw [← hL, List.length_append]; omega
    refine s_ifF0 (t_F (t_w (w_or (t_not (t_val (e_isi (e_v 2 rfl rfl) b_tuple (k_tuple rfl)))) fun _ => w_or (t_lt (e_lenT (e_v 2 rfl rfl)) e_int) fun _ => w_or (t_not (t_val (e_call h1 (.int a) (a_d (e_ixT (e_v 2 rfl rfl) e_int rfl) a_nil) rfl (by omega)))) fun _ => w_1o (t_lt (e_ixT (e_v 2 rfl rfl) e_int rfl) e_int))) (by simp [isTup, isInt, isBool, sD]))
      (s_ifF0 (t_F (t_and (t_eq (e_lenT (e_v 2 rfl rfl)) e_int) fun _ => t_eqS (e_ixT (e_v 2 rfl rfl) e_int rfl) e_str) (and_F (by decide +kernel)))
        (s_ifF0 (t_F (t_ge (e_ixT (e_v 2 rfl rfl) e_int rfl) (lenC (e_v 1 rfl rfl) rfl)) (by simp; omega))
          (s_ifF0 (t_F (t_and (t_eq (e_lenT (e_v 2 rfl rfl)) e_int) fun _ => t_eqS (e_ixT (e_v 2 rfl rfl) e_int rfl) e_str) (and_F (by decide +kernel)))
            (s_ifF0 (t_F (t_w (w_or (t_ne (e_lenT (e_v 2 rfl rfl)) e_int) fun _ => w_or (t_neS (e_ixT (e_v 2 rfl rfl) e_int rfl) e_str) fun _ => w_or (t_not (t_val (e_call h1 (.int b) (a_d (e_ixT (e_v 2 rfl rfl) e_int rfl) a_nil) rfl (by omega)))) fun _ => w_1o (t_not (t_val (e_call h1 (.int v) (a_d (e_ixT (e_v 2 rfl rfl) e_int rfl) a_nil) rfl (by omega)))))) (by simp [isInt, isBool, sD]; try decide +kernel))
              (s_asg 4 rfl (e_ixT (e_v 2 rfl rfl) e_int rfl) (s_ifF0 (t_F (t_w (w_or (t_lt (e_ixT (e_v 2 rfl rfl) e_int rfl) e_int) fun _ => w_or (t_ge (e_ixT (e_v 2 rfl rfl) e_int rfl) (lenC (e_v 1 rfl rfl) rfl)) fun _ => w_or (t_lt (e_v 4 rfl rfl) e_int) fun _ => w_or (t_niT (e_v 4 rfl rfl) (e_ixL (e_v 1 rfl rfl) (e_ixT (e_v 2 rfl rfl) e_int rfl) (at_get hp))) fun _ => w_1o (t_niT (e_neg (e_v 4 rfl rfl)) (e_ixL (e_v 1 rfl rfl) (e_ixT (e_v 2 rfl rfl) e_int rfl) (at_get hq))))) (by simp [hvp, hvq, hbl, hv]; omega))
                (s_lcC 5 rfl (e_lc (enc := .int) (xs := p) (f := fun a => !decide (a = (v : Int))) (g := PyData.int) 6 (i_T (e_ixL (e_v 1 rfl rfl) (e_ixT (e_v 2 rfl rfl) e_int rfl) (at_get hp))) rfl (fun s H C cl fp y fx' hy => ts_1 (t_ne (e_v 6 rfl rfl) (e_v 4 rfl rfl))) (fun s H C cl fp y fx' hy hf => e_v 6 rfl rfl))
                  (s_asg 5 rfl (d := .list (L.map .int)) (DE.to (e_cat (e_v 5 rfl rfl) (e_lc (enc := .int) (xs := q) (f := fun b => !decide (b = -(v : Int))) (g := PyData.int) 6 (i_T (e_ixL (e_v 1 rfl rfl) (e_ixT (e_v 2 rfl rfl) e_int rfl) (at_get hq))) rfl (fun s H C cl fp y fx' hy => ts_1 (t_ne (e_v 6 rfl rfl) (e_neg (e_v 4 rfl rfl)))) (fun s H C cl fp y fx' hy hf => e_v 6 rfl rfl)) ?_) (by rw [← hL, List.map_append]))
                    (s_ifF0 (t_F (t_gt (e_lenL (e_lc (enc := .int) (xs := L) (f := fun l => decide (-l ∈ L)) (g := PyData.int) 6 (i_L (e_v 5 rfl rfl)) rfl (fun s H C cl fp y fx' hy => ts_1 (t_inL (e_neg (e_v 6 rfl rfl)) (e_v 5 rfl rfl))) (fun s H C cl fp y fx' hy hf => e_v 6 rfl rfl))) e_int) (by rw [List.isEmpty_iff.mp h5]; rfl))
                      (s_ret (e_tupL (e_ssI (e_v 5 rfl rfl) hLz)) (end_d (by rw [h6]))))))))))))
    rw [List.length_map, List.length_map, sizeLine_eq]; omega
end
end Rb
/-! the law's clauses of steps, refutation, width -/
namespace Rb
open PySem PySem.Spec L2
def Der (n : Nat) (cs : List (List Int)) (ss : List Stp) (cls : List (List Int)) : Prop := cls.length = ss.length ∧ ∀ i s, ss[i]? = some s → ∃ c, cls[i]? = some c ∧ Fits n cs (cls.take i) s c
def maxN : List Nat → Nat
  | [] => 0
  | x :: xs => max x (maxN xs)
theorem maxN_le {xs : List Nat} : ∀ x ∈ xs, x ≤ maxN xs := by
  induction xs with
  | nil => intro x h; cases h
  | cons y xs ih =>
    intro x h
    rcases List.mem_cons.mp h with rfl | h
    · exact Nat.le_max_left _ _
    · exact Nat.le_trans (ih x h) (Nat.le_max_right _ _)
theorem maxN_mem {xs : List Nat} (h : xs ≠ []) : maxN xs ∈ xs := by
  induction xs with
  | nil => exact absurd rfl h
  | cons y xs ih =>
    unfold maxN
    cases xs with
    | nil => simp [maxN]
    | cons z zs =>
      have := ih (by simp)
      rcases Nat.le_total y (maxN (z :: zs)) with h | h
      · rw [Nat.max_eq_right h]; exact List.mem_cons_of_mem _ this
      · rw [Nat.max_eq_left h]; exact List.mem_cons_self
def widthN (cls : List (List Int)) : Nat := maxN (cls.map List.length)
section
variable {X : Cx} {k : Nat}
abbrev pLnext : Sp := spP (T := Nat × List (List Int) × List (List Int) × Stp × List Int) (fun p => [fD p.1 p.2.1, .list (p.2.2.1.map cD), sD p.2.2.2.1]) (fun p => p.1 ≤ 100 ∧ Fits p.1 p.2.1 p.2.2.1 p.2.2.2.1 p.2.2.2.2) (fun p => cD p.2.2.2.2)
theorem d_Lclauses (n : Nat) (cs : List (List Int)) (ss : List Stp) (cls : List (List Int)) (hn : n ≤ 100) (hz : ss.length ≤ 1000) (hd : Der n cs ss cls) [Fx X (defScope sL_clauses) nL_clauses k] [Fl X] (hk : 3 ≤ k) (h1 : Hs X "_law_next" 3 pLnext) :
    DS X [.dat (fD n cs), .dat (.tuple (ss.map sD)), .any, .any, .any] (defBody sL_clauses) (EndK ([fD n cs, .tuple (ss.map sD)].map .dat) (fun d => d = .list (cls.map cD))) := by
  refine s_new 2 rfl fun A => s_forN 3 rfl (i_T (e_v 1 rfl rfl)) (fun ds m ρ' => ∃ s3 s4, ρ' = [.dat (fD n cs), .dat (.tuple (ss.map sD)), .own A (fun y => y = (cls.take m).map cD), s3, s4] ∧ s4.plain = true) (fun ds _ => ⟨_, _, rfl, rfl⟩) ?_ ?_
  · rintro ds m d ρ' rfl hm ⟨s3, s4, rfl, hp⟩
    rw [List.getElem?_map] at hm
    cases hs : ss[m]? with
    | none => rw [hs] at hm; cases hm
    | some s =>
      rw [hs] at hm
      cases hm
      obtain ⟨c, hc, hf⟩ := hd.2 m s hs
      have hml := (List.getElem?_eq_some_iff.mp hc).1
      refine s_asg 4 rfl (e_frzd (P := fun d => d = cD c) 2 rfl (by cases s4 <;> first | rfl | cases hp) (e_call h1 (n, cs, cls.take m, s, c) (a_d (e_v 0 rfl rfl) (a_d (e_v 2 rfl rfl) (a_d (e_v 3 rfl rfl) a_nil))) ⟨hn, hf⟩ hk) (fun d h => by rw [h]; exact noL_cD c)) (s_ifF0 (t_F (t_isN (e_v 4 rfl rfl)) rfl) (s_app 2 rfl rfl (e_v 4 rfl rfl) ?_ (s_nil ?_)))
      · rw [List.length_map, List.length_take, hd.1, sizeLine_eq]; omega
      · show ∃ s3 s4, _ = _ ∧ _
        rw [List.take_add_one, hc, Option.toList_some, List.map_append]
        exact ⟨_, _, rfl, rfl⟩
  · rintro ds ρ' rfl ⟨s3, s4, rfl, hp⟩
    rw [List.length_map, ← hd.1, List.take_length]
    exact s_frz 2 rfl (s_ret (e_v 2 rfl rfl) (end_d rfl))
abbrev pLclauses : Sp := spP (T := Nat × List (List Int) × List Stp × List (List Int)) (fun p => [fD p.1 p.2.1, .tuple (p.2.2.1.map sD)]) (fun p => p.1 ≤ 100 ∧ p.2.2.1.length ≤ 1000 ∧ Der p.1 p.2.1 p.2.2.1 p.2.2.2) (fun p => .list (p.2.2.2.map cD))
theorem d_Lrefut (n : Nat) (cs : List (List Int)) (ss : List Stp) (cls : List (List Int)) (hn : n ≤ 100) (hz : ss.length ≤ 1000) (hd : Der n cs ss cls) (hl : cls.getLast? = some []) [Fx X (defScope sL_is_refutation) nL_is_refutation k] [Fl X] (hk : 4 ≤ k) (h1 : Hs X "_law_clauses" 4 pLclauses) :
    DS X [.dat (fD n cs), .dat (.tuple (ss.map sD)), .any] (defBody sL_is_refutation) (EndK ([fD n cs, .tuple (ss.map sD)].map .dat) (fun d => d = .bool true)) := by
  have hne : ss.length ≠ 0 := fun e => by
    rw [← hd.1] at e
    rw [List.eq_nil_of_length_eq_zero e] at hl
    cases hl
  refine s_ifF0 (t_F (t_or (t_not (t_val (e_isi (e_v 1 rfl rfl) b_tuple (k_tuple rfl)))) fun _ => t_eq (e_lenT (e_v 1 rfl rfl)) e_int) (by simp [isTup]; exact fun e => hne (by rw [e]; rfl))) (s_asg 2 rfl (e_call h1 (n, cs, ss, cls) (a_d (e_v 0 rfl rfl) (a_d (e_v 1 rfl rfl) a_nil)) ⟨hn, hz, hd⟩ hk)
    (s_ret (e_and (e_isi (e_v 2 rfl rfl) b_list (k_list rfl)) fun _ => e_1 (e_eqC (ns := []) (ms := []) (e_ixL (e_v 2 rfl rfl) (e_neg e_int) (atI_m1 (by rw [List.getLast?_map, hl]; rfl))) (e_tup (ds := []) a_nil))) (end_d rfl)))
abbrev pLrefut : Sp := spP (T := Nat × List (List Int) × List Stp × List (List Int)) (fun p => [fD p.1 p.2.1, .tuple (p.2.2.1.map sD)]) (fun p => p.1 ≤ 100 ∧ p.2.2.1.length ≤ 1000 ∧ Der p.1 p.2.1 p.2.2.1 p.2.2.2 ∧ p.2.2.2.getLast? = some []) (fun _ => .bool true)
theorem d_Lwidth (n : Nat) (cs : List (List Int)) (ss : List Stp) (cls : List (List Int)) (hn : n ≤ 100) (hz : ss.length ≤ 1000) (hd : Der n cs ss cls) (hl : cls ≠ []) [Fx X (defScope sL_width) nL_width k] [Fl X] (hk : 4 ≤ k) (h1 : Hs X "_law_clauses" 4 pLclauses) :
    DS X [.dat (fD n cs), .dat (.tuple (ss.map sD)), .any] (defBody sL_width) (EndK ([fD n cs, .tuple (ss.map sD)].map .dat) (fun d => d = .int (widthN cls : Nat))) :=
  s_ret (e_max (ns := cls.map fun c => (c.length : Int)) (m := (widthN cls : Nat)) (DE.to (e_lc0 (enc := cD) (xs := cls) (g := fun c => .int (c.length : Nat)) 2 (i_L (e_call h1 (n, cs, ss, cls) (a_d (e_v 0 rfl rfl) (a_d (e_v 1 rfl rfl) a_nil)) ⟨hn, hz, hd⟩ hk)) rfl
    (fun s H C cl fp y fx' hy => DE.to (e_lenT (e_v 2 rfl rfl)) (by rw [List.length_map]))) (by rw [List.map_map]; rfl))
    (by
      have := maxN_mem (xs := cls.map List.length) (by simpa using hl)
      obtain ⟨c, hc, e⟩ := List.mem_map.mp this
      exact List.mem_map.mpr ⟨c, hc, by unfold widthN; rw [e]⟩)
    (fun y hy => by
      obtain ⟨c, hc, rfl⟩ := List.mem_map.mp hy
      have := maxN_le (xs := cls.map List.length) c.length (List.mem_map_of_mem hc)
      unfold widthN
      omega)) (end_d rfl)
abbrev pLwidth : Sp := spP (T := Nat × List (List Int) × List Stp × List (List Int)) (fun p => [fD p.1 p.2.1, .tuple (p.2.2.1.map sD)]) (fun p => p.1 ≤ 100 ∧ p.2.2.1.length ≤ 1000 ∧ Der p.1 p.2.1 p.2.2.1 p.2.2.2 ∧ p.2.2.2 ≠ []) (fun p => .int (widthN p.2.2.2 : Nat))
end
end Rb
/-! own lists that a def gives; the pool and its draws -/
namespace Rb
open PySem PySem.Spec L2
section
variable {X : Cx} {ρ : List Sl} {sc : Scope} {N : List Str} {k : Nat} {a : Expr} {es rest : List Expr} {sts : List Stmt} {pos p p1 p2 : Pos} {x : Str} {ds : List PyData} {P Pt : Out → Prop}
/-- return [..], the caller's own -/
theorem s_retO (h : DA X ρ es (fun x => x = ds.map .dat)) (hP : P (.ro (fun y => y = ds) ρ)) (hl : ds.length ≤ sizeLine := by exact Nat.le_of_ble_eq_true rfl) : DS X ρ (.Return (some (.List es p)) pos :: sts) P := by
  refine PSs.weak (pss_cons (ps_ret (pe_lst h)) pss_false) fun D σ H ⟨F0, H0, F, g, r, q⟩ => ⟨F0, H0, F, g, r, fun vs as F1 H1 p1 g1 s1 r1 i1 => ?_⟩
  subst p1
  obtain ⟨i2, i3⟩ := ar_dats i1
  have hlen : vs.length = ds.length := dqA_len i2
  refine ⟨by omega, fun p hp => ?_⟩
  have gw := Gw.new (o := .lst vs) g1.fh hp
  exact q _ hP p σ _ _ (g1.trans gw) s1 (r1.mono gw) ⟨g1.hh.free hp, g1.fh.free hp, vs, ds, upd_same, i2, i3, by omega, rfl⟩
def spO {T : Type} (ar : T → List PyData) (pre : T → Prop) (Po : T → List PyData → Prop) : Sp := fun vs H Q _ => ∃ t F0 H0 F, pre t ∧ Gw F0 H0 F H ∧ ArOk H0 F H vs ((ar t).map .dat) ∧
  ∀ p F' H', Gw F0 H0 F' H' → Same F F' → MutOk H0 F' H' (.own p (Po t)) → Q (.ref p) H'
def EndO (Po : List PyData → Prop) : Out → Prop
  | .ro P' _ => ∀ ds, P' ds → Po ds
  | _ => False
theorem has_ofO {P : Program} {w : World} {K : PySem.W.Frag} {mg : Str → Option Value} {base : Heap} {x : Str} {st : Stmt} {N ps : List Str} {k : Nat} {T : Type} {ar : T → List PyData} {pre : T → Prop} {Po : T → List PyData → Prop} (hf : At K mg x st) (S : FnScope N ps (defScope st)) (hbn : ∀ x ∈ BN, mg x = none)
    (hb : ∀ (kV doc pm : Value) (an : Option Addr) (cdv ct : Value) (us : List Value), us.length = ps.length → bindArgs (PySem.W.fnOf x x (defArgs st) (defBody st) (defScope st) .none kV doc pm an cdv ct) ⟨us, []⟩ = pure (ps.zip us)) (hl : ∀ t, (ar t).length = ps.length)
    (body : ∀ X : Cx, Ctx P w K mg base X → Fx X (defScope st) N k → Fl X → ∀ t, pre t → DS X ((ar t).map .dat ++ List.replicate (N.length - ((ar t).map Sl.dat).length) .any) (defBody st) (EndO (Po t))) : Has P w K mg base x (k + 1) (spO ar pre Po) := by
  obtain ⟨f, fd, hm, F⟩ := hf.ex
  refine ⟨f, fd, ps, hm, F.kp, F.binds hb, F.ok S (fun vs H Q E h => ?_) (fun cdv A outer s H vs Q E hr h => ?_)⟩
  · obtain ⟨t, F0, H0, F', hp, g, ha, _⟩ := h
    rw [← hl t, ← List.length_map (f := Sl.dat)]
    exact Paired.length ha
  · obtain ⟨t, F0, H0, F', hp, g, ha, q⟩ := h
    have fx : Fx (cxOf CX0 P w K mg base N x (defScope st) f cdv A outer s H E).nox (defScope st) N k := ⟨rfl, S.nd, rfl, S.kind, rfl, hr, hbn, rfl⟩
    have fl : Fl (cxOf CX0 P w K mg base N x (defScope st) f cdv A outer s H E).nox := ⟨fun _ => rfl⟩
    refine ⟨_, body _ ⟨rfl, rfl, rfl, rfl, rfl⟩ fx fl t hp, F0, H0, F', g, rep_start ha apart_dats, fun o ho => ?_⟩
    cases o with
    | nx ρ' => exact ho.elim
    | rt d ρ' => exact ho.elim
    | ro P' ρ' =>
      intro pp σ' F2 H2 g2 s2 r2 i2
      obtain ⟨z1, z2, vs', ds', z3, z4, z5, z6, z7⟩ := i2
      exact q pp F2 H2 g2 s2 ⟨z1, z2, vs', ds', z3, z4, z5, z6, ho ds' z7⟩
/-- x = f(..), f giving an own list -/
theorem s_asgO [fx : Fx X sc N k] [fl : Fl X] {T : Type} {ar : T → List PyData} {pre : T → Prop} {Po : T → List PyData → Prop} {f : Str} {j : Nat} (n : Nat) (hN : N[n]? = some x) (h : Hs X f j (spO ar pre Po)) (t : T) (ha : DA X ρ (a :: rest) (fun as => as = (ar t).map .dat)) (hp : pre t) (hj : j ≤ k) (hr : ∀ A, DS X (ρ.set n (.own A (Po t))) sts Pt)
    (hlo : locB sc x = true := by decide +kernel) (hg : glB sc f = true := by decide +kernel) (he : starEach (a :: rest) X.env = (false, eval a X.env) :: starEach rest X.env := by rfl) (hpl : (backTo pos (starEach rest X.env)).any (·.1) = false := by rfl)
    (hs : swapsWith (.Call (.Name f p) (a :: rest) [] pos) (some (.Name x p1)) p2.line X.env = pure false := by rfl) : DS X ρ (.Assign [.Name x p1] (.Call (.Name f p) (a :: rest) [] pos) p2 :: sts) Pt := by
  obtain ⟨fa, fd, ps, h1, h2, h3, h4⟩ := h.ex
  obtain ⟨g1, g2⟩ := gl_of fx.hsc hg
  refine PSs.weak (pss_cons (ps_set (i := n) (by rw [fx.hN]; exact fx.nd) (by rw [fx.hN]; exact hN) (loc_of fx.hsc hlo) (pe_call h4 (fx.room.mono hj) g1 h1 h2 h3 (.nil : Vals [] []) pass0 ha g2 he hpl) hs (.inl (fl.fn _))) (ex_s (q := fun _ : Addr => True) (t := fun A => tS (ρ.set n (.own A (Po t))) Pt) fun A _ => hr A)) fun D σ H ⟨F0, H0, F, g, r, q⟩ => ?_
  refine ⟨F0, H0, F, g, r, fun vs as F1 H1 p1 g1 s1 r1 i1 => ?_⟩
  subst p1
  rw [List.append_nil]
  have i1' : ArOk H1 F1 H1 vs ((ar t).map .dat) := by
    have conv : ∀ {vs : List V} {ds : List PyData}, ArOk H0 F1 H1 vs (ds.map .dat) → ArOk H1 F1 H1 vs (ds.map .dat) := by
      intro vs ds
      induction ds generalizing vs with
      | nil => intro h; cases h; exact .nil
      | cons d ds ih =>
        intro h
        cases h with
        | cons h1 h2 => exact .cons h1 (ih h2)
    exact conv i1
  refine ⟨t, F1, H1, F1, hp, Gw.refl g1.fh, i1', fun pp F' H' gg ss hm => ?_⟩
  obtain ⟨z1, z2, z3⟩ := hm
  have gN := g1.trans gg
  refine ⟨pp, trivial, F0, H0, F', gN, (r1.mono gg).set ⟨rfl, g1.hh.free z1, z2, z3⟩ (fun a ea m t em et => ?_), fun o po => (q o po).mono (s1.trans ss)⟩
  cases ea
  obtain ⟨x', _, q2⟩ := r1.ok m t em
  obtain ⟨_, _, o, ho, _⟩ := mut_adr q2.mut et
  rw [z1] at ho
  cases ho
end
def PoolOk (ds : List PyData) : Prop := ∃ (sc : List Int) (i : Nat) (v c s : Int), ds = [.list (sc.map .int), .int i, .int v, .int c, .int s] ∧ sc.length ≤ 1000
def spreadF (c : Int) (n : Nat) : Int × Int := (List.range n).foldl (fun (mt : Int × Int) k => ((mt.1 * 48271 + 12345 + (k : Nat)) % 2147483647, mt.2 * 2147483647 + (mt.1 * 48271 + 12345 + (k : Nat)) % 2147483647)) (c % 2147483647, 1)
theorem spreadF_succ (c : Int) (n : Nat) : spreadF c (n + 1) = (((spreadF c n).1 * 48271 + 12345 + (n : Nat)) % 2147483647, (spreadF c n).2 * 2147483647 + ((spreadF c n).1 * 48271 + 12345 + (n : Nat)) % 2147483647) := by
  unfold spreadF
  rw [List.range_succ, List.foldl_append]
  rfl
section
variable {X : Cx} {k : Nat}
theorem d_Lpool (sc : List Int) (h : sc.length ≤ 1000) [Fx X (defScope sL_pool) nL_pool k] [Fl X] : DS X [.dat (.list (sc.map .int)), .any, .any] (defBody sL_pool) (EndO PoolOk) := by
  refine s_asg 1 rfl e_int (s_forN 2 rfl (i_L (e_slL (n := 63) (e_v 0 rfl rfl) e_int)) (fun ds m ρ' => ∃ s1 s2, ρ' = [.dat (.list (sc.map .int)), .dat (.int s1), s2]) (fun ds _ => ⟨_, _, rfl⟩) ?_ ?_)
  · rintro ds m d ρ' rfl hd ⟨s1, s2, rfl⟩
    rw [← List.map_take, List.getElem?_map] at hd
    cases hc : (sc.take 63)[m]? with
    | none => rw [hc] at hd; cases hd
    | some c =>
      rw [hc] at hd
      cases hd
      exact s_asg 1 rfl (e_mod (e_intI (e_add (e_mul (e_v 1 rfl rfl) e_int (.inr ⟨by decide, by decide⟩)) (e_v 2 rfl rfl))) e_int (by decide)) (s_nil ⟨_, _, rfl⟩)
  · rintro ds ρ' rfl ⟨s1, s2, rfl⟩
    exact s_retO (ds := [.list (sc.map .int), .int 0, .int 0, .int 0, .int s1]) (a_d (e_listL (e_v 0 rfl rfl)) (a_d e_int (a_d e_int (a_d e_int (a_d (e_v 1 rfl rfl) a_nil))))) (fun ds hds => ⟨sc, 0, 0, 0, s1, hds, h⟩)
abbrev pLpool : Sp := spO (T := List Int) (fun sc => [.list (sc.map .int)]) (fun sc => sc.length ≤ 1000) (fun _ => PoolOk)
theorem d_Lspread (c : Int) [Fx X (defScope sL_spread) nL_spread k] [Fl X] : DS X [.dat (.int c), .any, .any, .any] (defBody sL_spread) (EndK ([.int c].map .dat) (fun d => d = .int (spreadF c 4).2)) := by
  refine s_asg 1 rfl (e_mod (e_intI (e_v 0 rfl rfl)) e_int (by decide)) (s_asg 2 rfl e_int (s_forN 3 rfl (i_r0 (n := 4) e_int (by decide)) (fun ds m ρ' => ∃ s, ρ' = [.dat (.int c), .dat (.int (spreadF c m).1), .dat (.int (spreadF c m).2), s]) (fun ds _ => ⟨_, rfl⟩) ?_ ?_))
  · rintro ds m d ρ' rfl hd ⟨s, rfl⟩
    have hm : m < 4 := by have := (List.getElem?_eq_some_iff.mp hd).1; simpa using this
    rw [List.getElem?_map, List.getElem?_range hm] at hd
    cases hd
    refine s_asg 1 rfl (e_mod (e_intI (e_add (e_add (e_mul (e_v 1 rfl rfl) e_int (.inr ⟨by decide, by decide⟩)) e_int) (e_v 3 rfl rfl))) e_int (by decide)) (s_asg 2 rfl (e_add (e_mul (e_v 2 rfl rfl) e_int (.inr ⟨by decide, by decide⟩)) (e_v 1 rfl rfl)) (s_nil ?_))
    show ∃ s, _ = _
    rw [spreadF_succ]
    exact ⟨_, rfl⟩
  · rintro ds ρ' rfl ⟨s, rfl⟩
    rw [List.length_map, List.length_range]
    exact s_ret (e_v 2 rfl rfl) (end_d rfl)
abbrev pLspread : Sp := spP (T := Int) (fun c => [.int c]) (fun _ => True) (fun c => .int (spreadF c 4).2)
def Drawn (many : Int) (d : PyData) : Prop := ∃ j, d = .int j ∧ 0 ≤ j ∧ j < many
theorem d_Ldraw (A : Addr) (many : Int) (hm : 0 < many ∧ many < 1000000) [Fx X (defScope sL_draw) nL_draw k] [Fl X] (hk : 1 ≤ k) (h1 : Hs X "_law_spread" 1 pLspread) :
    DS X [.own A PoolOk, .dat (.int many), .any, .any, .any] (defBody sL_draw) (EndK [.own A PoolOk, .dat (.int many)] (Drawn many)) := by
  refine s_open 0 rfl fun ds hp => ?_
  obtain ⟨sc, i, v, c, s, rfl, hz⟩ := hp
  refine s_if (Pm := fun o => match o with | .nx ρ' => ∃ (i' : Nat) (v' : Int) (s2 : Sl), ρ' = [.own A (fun y => y = [.list (sc.map .int), .int i', .int v', .int c, .int s]), .dat (.int many), s2, .any, .any] | _ => False) (Qc := fun b => b = true → i < sc.length)
    (DQ.imp (t_and (t_le (e_ixO 0 rfl rfl e_int rfl) e_int) fun _ => t_lt (e_ixO 0 rfl rfl e_int rfl) (e_lenL (e_ixO 0 rfl rfl e_int rfl))) fun b hb ht => ?_) (fun hi => ?_) (fun _ => s_nil ⟨_, _, _, rfl⟩) ?_ (fun d ρ' h => h.elim) (fun P' ρ' h => h.elim)
  · rw [ht] at hb
    rw [List.length_map] at hb
    have := (Bool.and_eq_true _ _ ▸ hb.symm : _ ∧ _).2
    have := of_decide_eq_true this
    omega
  · have hi := hi rfl
    have hat : atI (sc.map PyData.int) (i : Nat) = some (.int sc[i]) := by rw [atI_map, atI_nn (List.getElem?_eq_getElem hi)]; rfl
    refine s_asg 2 rfl (e_ixL (e_ixO 0 rfl rfl e_int rfl) (e_ixO 0 rfl rfl e_int rfl) hat) (s_setO (j := 1) 0 rfl rfl e_int (e_add (e_ixO 0 rfl rfl e_int rfl) e_int) (by simp) (s_setO (j := 2) 0 rfl rfl e_int (e_v 2 rfl rfl) (by simp)
      (s_ifB (t_lt (e_v 2 rfl rfl) e_int) (fun _ => s_setO (j := 2) 0 rfl rfl e_int (e_call h1 sc[i] (a_d (e_v 2 rfl rfl) a_nil) trivial hk) (by simp) (s_nil (s_nil ⟨i + 1, _, _, rfl⟩))) (fun _ => s_nil (s_nil ⟨i + 1, _, _, rfl⟩)))))
  · rintro ρ' ⟨i', v', s2, rfl⟩
    refine s_setO (j := 3) 0 rfl rfl e_int (e_add (e_ixO 0 rfl rfl e_int rfl) e_int) (by simp) (s_ifB (t_le (e_ixO 0 rfl rfl e_int rfl) e_int) (fun _ => ?_) (fun _ => s_nil ?_))
    · refine s_asg 3 rfl (e_mod (e_intI (e_add (e_add (e_mul (e_ixO 0 rfl rfl e_int rfl) e_int (.inr ⟨by decide, by decide⟩)) (e_mul (e_ixO 0 rfl rfl e_int rfl) e_int (.inr ⟨by decide, by decide⟩))) e_int)) e_int (by decide))
        (s_asg 3 rfl (e_mod (e_intI (e_add (e_mul (e_v 3 rfl rfl) e_int (.inr ⟨by decide, by decide⟩)) (e_ixO 0 rfl rfl e_int rfl))) e_int (by decide)) (s_less 0 (Po' := PoolOk) rfl (fun ds h => ⟨sc, i', v', c + 1, s, h, hz⟩) (s_ret (e_mod (e_fdiv (e_v 3 rfl rfl) e_int ⟨by decide, by decide⟩) (e_v 1 rfl rfl) hm.1) ⟨⟨_, rfl, Int.emod_nonneg _ (by omega), Int.emod_lt_of_pos _ hm.1⟩, ?_⟩)))
      intro t ht
      rcases List.mem_cons.mp ht with rfl | ht
      · exact .inr List.mem_cons_self
      · exact .inl ⟨_, List.mem_singleton.mp ht⟩
    · refine s_asg 4 rfl (e_mod (e_intI (e_ixO 0 rfl rfl e_int rfl)) (e_v 1 rfl rfl) hm.1) (s_setO (j := 2) 0 rfl rfl e_int (e_fdiv (e_ixO 0 rfl rfl e_int rfl) (e_v 1 rfl rfl) ⟨hm.1, by omega⟩) (by simp) (s_less 0 (Po' := PoolOk) rfl (fun ds h => ⟨sc, i', v' / many, c + 1, s, h, hz⟩) (s_ret (e_v 4 rfl rfl) ⟨⟨_, rfl, Int.emod_nonneg _ (by omega), Int.emod_lt_of_pos _ hm.1⟩, ?_⟩)))
      intro t ht
      rcases List.mem_cons.mp ht with rfl | ht
      · exact .inr List.mem_cons_self
      · exact .inl ⟨_, List.mem_singleton.mp ht⟩
abbrev pLdraw : Sp := spK (T := Addr × Int) (fun t => [.own t.1 PoolOk, .dat (.int t.2)]) (fun t => 0 < t.2 ∧ t.2 < 1000000) (fun t => Drawn t.2)
end
end Rb
/-! the drawn formula and division -/
namespace Rb
open PySem PySem.Spec L2
section
variable {X : Cx} {ρ : List Sl} {sc : Scope} {N : List Str} {k : Nat} {a b : Expr} {pos p p1 : Pos} {x : Str} {A : Addr} {i many : Int} {ns : List Int}
/-- i not in own -/
theorem t_niO [fx : Fx X sc N k] (n : Nat) (ha : DE X ρ a (.int i)) (hN : N[n]? = some x) (hρ : ρ[n]? = some (.own A (fun y => y = ns.map .int))) (hv : visB sc x = true := by decide +kernel) (hm : behindInMarks .NotIn (.Name x p) = false := by rfl) : DT X ρ (.Compare a [.NotIn] [.Name x p] pos) (!decide (i ∈ ns)) := by
  obtain ⟨h1, h2, h3⟩ := vis_of (X := X) fx.hsc hv
  refine PT.weak (pt_cmpR op_notIn_seq ha (pe_var (i := n) (by rw [fx.hN]; exact hN) h1 h2 h3) hm) fun σ H Q ⟨F0, H0, F, g, r, q⟩ => ⟨F0, H0, F, g, r, fun v d F1 H1 p1 g1 s1 r1 i1 => ⟨_, (own_adr r1 hρ).1, ?_⟩⟩
  subst p1
  obtain ⟨_, _, _, vs, ds', z1, z2, z3, _, rfl⟩ := own_adr r1 hρ
  have h3 := dqA_ints_inv z2
  subst h3
  rw [i1.int_inv]
  refine ⟨A, _, rfl, .inl (SqL.of z1), rfl, flat_ints ns, ?_⟩
  rw [inV_ints]
  exact ⟨_, rfl, q _ F1 H1 rfl g1 s1 r1⟩
theorem apart_1 {P : List PyData → Prop} {ds : List PyData} : Apart (.own A P :: ds.map .dat) := fun i j s t a e1 e2 a1 a2 => by
  have key : ∀ (i : Nat) (s : Sl), (Sl.own A P :: ds.map Sl.dat)[i]? = some s → s.adr = some a → i = 0 := fun i s e h => by
    cases i with
    | zero => rfl
    | succ i =>
      rw [List.getElem?_cons_succ, List.getElem?_map] at e
      cases q : ds[i]? with
      | none => rw [q] at e; cases e
      | some d => rw [q] at e; cases e; cases h
  rw [key i s e1 a1, key j t e2 a2]
/-- the call of a def that takes an own list first -/
theorem e_own1 [fx : Fx X sc N k] {T : Type} {ar : T → List Sl} {pre : T → Prop} {R : T → PyData → Prop} {Pr : PyData → Prop} {P : List PyData → Prop} {f : Str} {j : Nat} {rest : List Expr} (n : Nat) (hN : N[n]? = some x) (hρ : ρ[n]? = some (.own A P)) (h : Hs X f j (spK ar pre R)) (t : T) (ds : List PyData) (har : ar t = .own A P :: ds.map .dat) (ha : DA X ρ rest (fun as => as = ds.map .dat)) (hp : pre t) (hj : j ≤ k)
    (hR : ∀ d, R t d → Pr d := by exact fun _ h => h) (hv : visB sc x = true := by decide +kernel) (hg : glB sc f = true := by decide +kernel) (hs : starEach (.Name x p1 :: rest) X.env = (false, eval (.Name x p1) X.env) :: starEach rest X.env := by rfl) (hpl : (backTo pos (starEach rest X.env)).any (·.1) = false := by rfl) :
    DP X ρ (.Call (.Name f p) (.Name x p1 :: rest) [] pos) Pr :=
  e_cbK h t (by rw [har]; exact a_o n hN hρ rfl ha hv hs) hp (by rw [har]; exact apart_1) (fun s hs' e => by
    rw [har] at hs'
    rcases List.mem_cons.mp hs' with rfl | hs'
    · exact List.mem_of_getElem? hρ
    · obtain ⟨d, _, rfl⟩ := List.mem_map.mp hs'; exact absurd rfl e) hj hR hg hs hpl
theorem e_draw [fx : Fx X sc N k] (n : Nat) (hN : N[n]? = some x) (hρ : ρ[n]? = some (.own A PoolOk)) (h : Hs X "_law_draw" 2 pLdraw) (hb : DE X ρ b (.int many)) (hm : 0 < many ∧ many < 1000000) (hj : 2 ≤ k)
    (hv : visB sc x = true := by decide +kernel) (hg : glB sc "_law_draw" = true := by decide +kernel) (hs : starEach (.Name x p1 :: [b]) X.env = (false, eval (.Name x p1) X.env) :: starEach [b] X.env := by rfl) (hs2 : starEach [b] X.env = [(false, eval b X.env)] := by rfl) (hpl : (backTo pos (starEach [b] X.env)).any (·.1) = false := by rfl) :
    DP X ρ (.Call (.Name "_law_draw" p) [.Name x p1, b] [] pos) (Drawn many) :=
  e_own1 n hN hρ h (A, many) [.int many] rfl (a_d hb a_nil hs2) hm hj (fun _ h => h) hv hg hs hpl
end
section
variable {X : Cx} {ρ : List Sl} {sc : Scope} {N : List Str} {k : Nat} {e elt : Expr} {pos p1 : Pos} {x : Str}
/-- [elt for x in ..], what it may give -/
theorem l_lcP [fx : Fx X sc N k] {scope : Scope} {ifs : List Expr} {Pl : List PyData → Prop} {Pt : Nat → PyData → Bool → Prop} {Pe : Nat → PyData → PyData → Prop} (n : Nat) (hi : DI X ρ (.Name x p1) e Pl) (hN : N[n]? = some x)
    (ht : ∀ s H C cl fp j d ds, Fx (Bk X s H scope C cl fp) (relS scope sc) N k → Pl ds → ds[j]? = some d → DTs (Bk X s H scope C cl fp) ((ρ.set n .any).set n (.dat d)) ifs (Pt j d))
    (he : ∀ s H C cl fp j d ds, Fx (Bk X s H scope C cl fp) (relS scope sc) N k → Pl ds → ds[j]? = some d → Pt j d true → DP (Bk X s H scope C cl fp) ((ρ.set n .any).set n (.dat d)) elt (Pe j d))
    (ok : blkC N sc scope [(x, n)] = true := by decide +kernel) (hpl : plainAt ρ [n] = true := by rfl) (hl : tgB sc scope x = true := by decide +kernel) :
    LcOk X ρ elt (.Name x p1) e ifs scope (fun y => ∃ ds es, y = .list es ∧ Pl ds ∧ Comp Pt Pe ds es) :=
  lc_core [(x, n)] hi (tg_1 (n := n) (by simp)) (fun _ _ _ _ => trivial) (pg_blk (kind_of ok) hN hl) ht he ok hpl
end
theorem Cl.of {n : Nat} {c c' : List Int} (h : Cl n c) (hs : c'.Pairwise (· < ·)) (hm : ∀ l ∈ c', l ∈ c) : Cl n c' := ⟨hs, fun l hl => h.2.1 l (hm l hl), fun l hl hn => h.2.2 l (hm l hl) (hm _ hn)⟩
/-- literals in any order -/
def Ls (n : Nat) (c : List Int) : Prop := c.Nodup ∧ (∀ l ∈ c, l ≠ 0 ∧ -(n : Int) ≤ l ∧ l ≤ n) ∧ ∀ l ∈ c, -l ∉ c
theorem sortI_lt {c : List Int} (h : c.Nodup) : (sortI c).Pairwise (· < ·) := by
  have h3 := sortI_pw c
  have h4 : (sortI c).Nodup := (sortI_perm _).nodup_iff.mpr h
  refine (h3.and h4).imp fun {a b} h => ?_
  have e1 := h.1; have e2 := h.2
  omega
theorem Ls.sort {n : Nat} {c : List Int} (h : Ls n c) : Cl n (sortI c) := ⟨sortI_lt h.1, fun l hl => h.2.1 l (sortI_mem.mp hl), fun l hl hn => h.2.2 l (sortI_mem.mp hl) (sortI_mem.mp hn)⟩
theorem Cl.ls {n : Nat} {c : List Int} (h : Cl n c) : Ls n c := ⟨h.1.imp fun h => Int.ne_of_lt h, h.2.1, h.2.2⟩
theorem Ls.len {n : Nat} {c : List Int} (h : Ls n c) : c.length ≤ 2 * n + 1 := by rw [← (sortI_perm c).length_eq]; exact h.sort.len
section
variable {X : Cx} {k : Nat}
def ClD (n : Nat) (d : PyData) : Prop := ∃ c, d = cD c ∧ Cl n c
theorem d_Lsome (A : Addr) (n : Nat) (hn : 1 ≤ n ∧ n ≤ 4) [Fx X (defScope sL_some_clause) nL_some_clause k] [Fl X] (hk : 2 ≤ k) (h1 : Hs X "_law_draw" 2 pLdraw) :
    DS X [.own A PoolOk, .dat (.int n), .dat (.int 3), .any, .any, .any] (defBody sL_some_clause) (EndK [.own A PoolOk, .dat (.int n), .dat (.int 3)] (ClD n)) := by
  refine s_new 3 rfl fun B => s_forN 4 rfl (i_r1P (Pn := fun n => n ≤ 4) (DP.imp (e_draw (A := A) 0 rfl rfl h1 (e_add (e_v 2 rfl rfl) e_int) (by decide) hk) fun d ⟨j, h1, h2, h3⟩ => ⟨j, h1, by omega, by omega, by omega⟩))
    (fun ds m ρ' => ∃ s4 s5 c, ρ' = [.own A PoolOk, .dat (.int n), .dat (.int 3), .own B (fun y => y = c.map .int), s4, s5] ∧ Ls n c) (fun ds _ => ⟨_, _, [], rfl, .nil, (fun l h => by cases h), (fun l h => by cases h)⟩) ?_ ?_
  · rintro ds m d ρ' _ hd ⟨s4, s5, c, rfl, hc⟩
    refine s_asgP 5 rfl (e_addP e_int (e_draw (A := A) 0 rfl rfl h1 (e_v 1 rfl rfl) (by omega) hk)) ?_
    rintro _ ⟨j, rfl, j0, jn⟩
    refine s_ifB (t_and (t_niO 3 (e_v 5 rfl rfl) rfl rfl) fun _ => t_niO 3 (e_neg (e_v 5 rfl rfl)) rfl rfl) (fun hb => ?_) (fun _ => s_nil (s_nil ⟨_, _, c, rfl, hc⟩))
    rw [Bool.and_eq_true] at hb
    have b1 : 1 + j ∉ c := by simpa using hb.1
    have b2 : -(1 + j) ∉ c := by simpa using hb.2
    have hlen := hc.len
    refine s_appP (Pa := fun d => ∃ l, d = .int l ∧ (l = 1 + j ∨ l = -(1 + j))) 3 rfl rfl (e_ifP (q_eqP (Pq := fun _ => True) (e_draw (A := A) 0 rfl rfl h1 e_int (by decide) hk) e_int (fun _ _ => trivial)) (fun _ => DE.p (e_v 5 rfl rfl) ⟨_, rfl, .inl rfl⟩) (fun _ => DE.p (e_neg (e_v 5 rfl rfl)) ⟨_, rfl, .inr rfl⟩)) (by rw [List.length_map, sizeLine_eq]; omega) ?_
    rintro _ ⟨l, rfl, hl⟩
    have hl1 : l ∉ c := by rcases hl with rfl | rfl <;> assumption
    have hl2 : -l ∉ c := by
      rcases hl with rfl | rfl
      · exact b2
      · rw [Int.neg_neg]; exact b1
    refine s_nil (s_nil ⟨_, _, c ++ [l], by rw [List.map_append]; rfl, ?_, ?_, ?_⟩)
    · rw [List.nodup_append]
      refine ⟨hc.1, by simp, fun a ha b hb e => ?_⟩
      rw [List.mem_singleton] at hb
      exact hl1 (hb ▸ e ▸ ha)
    · intro y hy
      rcases List.mem_append.mp hy with hy | hy
      · exact hc.2.1 y hy
      · rw [List.mem_singleton.mp hy]; rcases hl with rfl | rfl <;> omega
    · intro y hy hy2
      rcases List.mem_append.mp hy with hy | hy
      · rcases List.mem_append.mp hy2 with hy2 | hy2
        · exact hc.2.2 y hy hy2
        · have e := List.mem_singleton.mp hy2
          exact hl2 (by rw [← e, Int.neg_neg]; exact hy)
      · have e := List.mem_singleton.mp hy
        subst e
        rcases List.mem_append.mp hy2 with hy2 | hy2
        · exact hl2 hy2
        · have e := List.mem_singleton.mp hy2
          rcases hl with rfl | rfl <;> omega
  · rintro ds ρ' _ ⟨s4, s5, c, rfl, hc⟩
    refine s_frz 3 rfl (s_ret (e_tupL (e_sortI (e_v 3 rfl rfl))) ⟨⟨_, rfl, hc.sort⟩, ?_⟩)
    intro t ht
    rcases List.mem_cons.mp ht with rfl | ht
    · exact .inr List.mem_cons_self
    · rcases List.mem_cons.mp ht with rfl | ht
      · exact .inl ⟨_, rfl⟩
      · exact .inl ⟨_, List.mem_singleton.mp ht⟩
abbrev pLsome : Sp := spK (T := Addr × Nat) (fun t => [.own t.1 PoolOk, .dat (.int t.2), .dat (.int 3)]) (fun t => 1 ≤ t.2 ∧ t.2 ≤ 4) (fun t => ClD t.2)
def RowsD (n : Nat) (d : PyData) : Prop := ∃ cs : List (List Int), d = .list (cs.map cD) ∧ (∀ c ∈ cs, Cl n c) ∧ cs.length ≤ 6
theorem rowsC_of {n : Nat} : ∀ {ds : List PyData}, (∀ d ∈ ds, ClD n d) → ∃ cs : List (List Int), ds = cs.map cD ∧ ∀ c ∈ cs, Cl n c
  | [], _ => ⟨[], rfl, fun _ h => by cases h⟩
  | d :: ds, h => by
    obtain ⟨c, rfl, hc⟩ := h d List.mem_cons_self
    obtain ⟨cs, rfl, hcs⟩ := rowsC_of (ds := ds) fun d hd => h d (List.mem_cons_of_mem _ hd)
    exact ⟨c :: cs, rfl, fun x hx => by rcases List.mem_cons.mp hx with rfl | hx; exact hc; exact hcs x hx⟩
/-- a formula's datum -/
def FmD (d : PyData) : Prop := ∃ n cs, d = fD n cs ∧ 1 ≤ n ∧ n ≤ 4 ∧ (∀ c ∈ cs, Cl n c) ∧ cs.length ≤ 6
theorem d_Ldrawn (A : Addr) [Fx X (defScope sL_drawn_formula) nL_drawn_formula k] [Fl X] (hk : 3 ≤ k) (h1 : Hs X "_law_draw" 2 pLdraw) (h2 : Hs X "_law_some_clause" 3 pLsome) :
    DS X [.own A PoolOk, .dat (.int 4), .any, .any, .any, .any] (defBody sL_drawn_formula) (EndK [.own A PoolOk, .dat (.int 4)] FmD) := by
  refine s_asgP 2 rfl (e_addP e_int (e_draw (A := A) 0 rfl rfl h1 (e_v 1 rfl rfl) (by decide) (by omega))) ?_
  rintro _ ⟨j, rfl, j0, j4⟩
  obtain ⟨n, rfl⟩ : ∃ n : Nat, j = (n : Int) := ⟨j.toNat, by omega⟩
  have en : (1 + (n : Int)) = ((n + 1 : Nat) : Int) := by omega
  rw [en]
  refine s_lcP (Pa := RowsD (n + 1)) 3 rfl (LcOk.imp (l_lcP (Pl := fun ds => ds.length ≤ 6) (Pt := fun _ _ b => b = true) (Pe := fun _ _ y => ClD (n + 1) y) 4 (PI.weak (i_r1P (Pn := fun m => m ≤ 6) (DP.imp (e_draw (A := A) 0 rfl rfl h1 e_int (by decide) (by omega)) fun d ⟨j, h1, h2, h3⟩ => ⟨j, h1, by omega, by omega, by omega⟩))
      fun σ H R ⟨F0, H0, F, g, r, q⟩ => ⟨F0, H0, F, g, r, fun J ds F' H' ⟨m, e, hm⟩ => q J ds F' H' (by show ds.length ≤ 6; rw [e, rngD_len]; omega)⟩)
    rfl (fun s H C cl fp j d ds fx' _ _ => ts_0)
    (fun s H C cl fp j d ds fx' _ _ _ => e_own1 (A := A) 0 rfl rfl h2 (A, n + 1) [.int (n + 1 : Nat), .int 3] rfl (a_d (e_v 2 rfl rfl) (a_d e_int a_nil)) ⟨by omega, by omega⟩ hk)) ?_) ?_
  · rintro _ ⟨ds, es, rfl, hl, hc⟩
    obtain ⟨cs, rfl, hcs⟩ := rowsC_of (n := n + 1) fun y hy => let ⟨_, _, _, _, q⟩ := hc.mem y hy; q
    have := hc.len
    rw [List.length_map] at this
    exact ⟨cs, rfl, hcs, by omega⟩
  rintro _ ⟨cs, rfl, hcs, hl⟩
  refine s_lcP (Pa := RowsD (n + 1)) 3 rfl (LcOk.imp (l_lcP (Pl := fun ds => ds = cs.map cD) (Pt := fun _ _ _ => True) (Pe := fun _ d y => y = d) 5 (i_L (e_v 3 rfl rfl))
    rfl (fun s H C cl fp j d ds fx' e hd => ?_)
    (fun s H C cl fp j d ds fx' _ _ _ => e_v 5 rfl rfl)) ?_) ?_
  · subst e
    rw [List.getElem?_map] at hd
    cases hc : cs[j]? with
    | none => rw [hc] at hd; cases hd
    | some c =>
      rw [hc] at hd
      cases hd
      exact ts_1 (t_w (w_orP (Qa := fun _ => True) (Qb := fun _ => True) (DQ.imp (t_gt (e_lenT (e_v 5 rfl rfl)) e_int) fun _ _ => trivial) (fun _ => w_1o (q_eqP (e_draw (A := A) 0 rfl rfl h1 e_int (by decide) (by omega)) e_int (fun _ _ => trivial))) (fun _ => trivial) (fun _ _ _ => trivial)))
  · rintro _ ⟨ds, es, rfl, rfl, hc⟩
    obtain ⟨cs', rfl, hcs'⟩ := rowsC_of (n := n + 1) fun y hy => by
      obtain ⟨j, d, hd, _, rfl⟩ := hc.mem y hy
      obtain ⟨c, hc1, rfl⟩ := List.mem_map.mp (List.mem_of_getElem? hd)
      exact ⟨c, rfl, hcs c hc1⟩
    have := hc.len
    rw [List.length_map, List.length_map] at this
    exact ⟨cs', rfl, hcs', by omega⟩
  rintro _ ⟨cs', rfl, hcs', hl'⟩
  refine s_ret (e_tup (ds := [.int (n + 1 : Nat), .tuple ((ssC cs').map cD)]) (a_d (e_v 2 rfl rfl) (a_d (e_tupL (e_ssC (e_v 3 rfl rfl) (by omega))) a_nil))) ⟨⟨n + 1, ssC cs', rfl, by omega, by omega, fun c hc => hcs' c (ssC_mem.mp hc), Nat.le_trans (ssC_len _) hl'⟩, ?_⟩
  intro t ht
  rcases List.mem_cons.mp ht with rfl | ht
  · exact .inr List.mem_cons_self
  · exact .inl ⟨_, List.mem_singleton.mp ht⟩
abbrev pLdrawn : Sp := spK (T := Addr) (fun A => [.own A PoolOk, .dat (.int 4)]) (fun _ => True) (fun _ => FmD)
def DivD (m : Nat) (d : PyData) : Prop := ∃ div, d = cD div ∧ (∀ k ∈ div, 0 ≤ k ∧ k < (m : Int)) ∧ div.length ≤ m
theorem d_Ldivision (A : Addr) (n : Nat) (cs : List (List Int)) (hz : cs.length ≤ 1000) [Fx X (defScope sL_division) nL_division k] [Fl X] (hk : 2 ≤ k) (h1 : Hs X "_law_draw" 2 pLdraw) :
    DS X [.own A PoolOk, .dat (fD n cs), .any] (defBody sL_division) (EndK [.own A PoolOk, .dat (fD n cs)] (DivD cs.length)) := by
  refine s_retP (e_tupLP (Pl := fun ds => ∃ div : List Int, ds = div.map .int ∧ (∀ k ∈ div, 0 ≤ k ∧ k < (cs.length : Int)) ∧ div.length ≤ cs.length) (DP.imp (e_lcK (l_lcP (Pl := fun ds => ds = (List.range cs.length).map fun i => .int (i : Nat)) (Pt := fun _ _ _ => True) (Pe := fun _ d y => y = d) 2 (i_r0 (n := cs.length) (DE.to (e_lenT (e_ixT (e_v 1 rfl rfl) e_int rfl)) (by rw [List.length_map])) (by omega))
    rfl (fun s H C cl fp j d ds fx' _ _ => ts_1 (q_eqP (e_draw (A := A) 0 rfl rfl h1 e_int (by decide) (by omega)) e_int (fun _ _ => trivial)))
    (fun s H C cl fp j d ds fx' _ _ _ => e_v 2 rfl rfl))) ?_)) ?_
  · rintro _ ⟨ds, es, rfl, rfl, hc⟩
    refine ⟨es, rfl, ?_⟩
    have : ∀ y ∈ es, ∃ k : Int, y = .int k ∧ 0 ≤ k ∧ k < (cs.length : Int) := fun y hy => by
      obtain ⟨j, d, hd, _, rfl⟩ := hc.mem y hy
      obtain ⟨i, hi, rfl⟩ := List.mem_map.mp (List.mem_of_getElem? hd)
      have := List.mem_range.mp hi
      exact ⟨i, rfl, by omega, by omega⟩
    have hlen : es.length ≤ cs.length := by have := hc.len; rwa [List.length_map, List.length_range] at this
    clear hc
    suffices hs : ∃ div : List Int, es = div.map .int ∧ ∀ k ∈ div, 0 ≤ k ∧ k < (cs.length : Int) by
      obtain ⟨div, e, hd⟩ := hs
      exact ⟨div, e, hd, by rw [e, List.length_map] at hlen; exact hlen⟩
    clear hlen
    induction es with
    | nil => exact ⟨[], rfl, fun _ h => by cases h⟩
    | cons y es ih =>
      obtain ⟨k, rfl, hk⟩ := this y List.mem_cons_self
      obtain ⟨div, e, hd⟩ := ih fun y hy => this y (List.mem_cons_of_mem _ hy)
      exact ⟨k :: div, by rw [e]; rfl, fun x hx => by rcases List.mem_cons.mp hx with rfl | hx; exact hk; exact hd x hx⟩
  · rintro _ ⟨ds, rfl, div, rfl, hd⟩
    refine ⟨⟨div, rfl, hd⟩, ?_⟩
    intro t ht
    rcases List.mem_cons.mp ht with rfl | ht
    · exact .inr List.mem_cons_self
    · exact .inl ⟨_, List.mem_singleton.mp ht⟩
abbrev pLdivision : Sp := spK (T := Addr × Nat × List (List Int)) (fun t => [.own t.1 PoolOk, .dat (fD t.2.1 t.2.2)]) (fun t => t.2.2.length ≤ 1000) (fun t => DivD t.2.2.length)
end
end Rb
/-! sorted of a tuple of ints -/
namespace Rb
open PySem PySem.Spec L2 PyProof.Rows
section
variable {prog : Program} {w : World} {A : Around} {E : Value → Shared → Prop} {s : Shared}
theorem collect_tupE {l : Addr} {vs : List Value} {Q : List Value → Shared → Prop} (hl : s.heap.IsTuple l vs.toArray)
    (h : Q vs { s with heap := (s.heap.push (seqObj "list" #[] 0)).update s.heap.objs.size (Obj.mapSeq (· ++ vs.toArray)) }) (hsz : vs.length ≤ sizeLine := by size_fits) :
    wpAny (model prog w) A (collect (.ref l)) Q E s := by
  obtain ⟨o, ho, hc, n, hd⟩ := id hl
  unfold collect
  refine wpAny_bind (wpAny_runValue (codeAny_builtin entry_proto_collect' ?_))
  show wpAny _ _ (do again (.builtin "list.__iadd__" ⟨[← newList [], .ref l], []⟩)) _ _ s
  refine wpAny_bind (wpAny_newList (wpAny_pure ⟨Code.quiet_builtin _ (by decide +kernel), codeAny_builtin entry_list_iadd' ?_⟩))
  show wpAny _ _ (Builtin.List.listExtendWith (.ref s.heap.objs.size) (.ref l) (.ref s.heap.objs.size)) _ _ { s with heap := s.heap.push (seqObj "list" #[] 0) }
  unfold Builtin.List.listExtendWith
  have ho' : (s.heap.push (seqObj "list" #[] 0)).get? l = some o := Heap.get?_push_of_some _ ho
  refine wpAny_bind (wpAny_typeOf (T := "tuple") ⟨o, ho', hc⟩ ?_)
  have ht : (Value.type "tuple" == Value.type "tuple") = true := by rfl
  rw [if_pos (by rw [ht]; simp)]
  refine wpAny_bind (listItems_at ho' hd ?_)
  refine wpAny_bind (listItems_at (xs := #[]) (n := 0) (Heap.get?_push_size _ rfl) rfl ?_)
  rw [if_neg (by simp)]
  refine wpAny_bind (listUpdate_at (xs := #[]) (n := 0) (Heap.get?_push_size _ rfl) rfl ?_ (Nat.zero_le _) (by show (#[] ++ vs.toArray).size ≤ sizeLine + 1; simp only [Array.size_append, List.size_toArray, List.length_nil]; omega))
  refine wpAny_pure ?_
  show wpAny (model prog w) A (do
      let o ← load s.heap.objs.size
      match o.data with
      | .seq xs _ => pure xs.toList
      | _ => unsupported "internal:collect") Q E { s with heap := (s.heap.push (seqObj "list" #[] 0)).update s.heap.objs.size (Obj.mapSeq (· ++ vs.toArray)) }
  refine wpAny_bind (wpAny_load (get?_update_seq (Heap.get?_push_size _ rfl) _) ?_)
  show wpAny _ _ (pure ((#[] : Array Value) ++ vs.toArray).toList) Q E _
  rw [show ((#[] : Array Value) ++ vs.toArray).toList = vs by simp]
  exact wpAny_pure h
open SrtO in
theorem sorted_ordT {l : Addr} {vs : List Value} {ltv : Value → Value → Bool} {Q : Value → Shared → Prop} (O : Swo ltv) (hl : s.heap.IsTuple l vs.toArray) (hz : vs.length ≤ sizeLine)
    (hS : 2 ≤ vs.length → ∀ (h₁ : Heap) (a : Addr), h₁.get? a = some (seqObj "list" vs.toArray 0) → (∀ b o, s.heap.get? b = some o → b ≠ a ∧ h₁.get? b = some o) → SortableO prog w A.in1.in1 { s with heap := h₁ } a vs ltv)
    (h : ∀ out : List Value, Srtd ltv out → Stb ltv out vs → Q (.ref (s.heap.objs.size + 1)) { s with heap := sortedAll s.heap vs out.toArray }) :
    wpAny (model prog w) A (call (.builtin "sorted") [.ref l]) Q E s := by
  refine Calls.call_function_entry kind_sorted plain_sorted entry_sorted (args_sorted1 _) ?_
  unfold Builtin.«sorted»
  refine wpAny_bind (m := checkCount "sorted" 1 1 _) (wpAny_pure ?_)
  refine wpAny_bind (collect_tupE hl ?_ hz)
  refine wpAny_bind (wpAny_newList ?_ hz)
  have hsz : ((s.heap.push (seqObj "list" #[] 0)).update s.heap.objs.size (Obj.mapSeq (· ++ vs.toArray))).objs.size = s.heap.objs.size + 1 := by
    rw [Heap.size_update, size_push']
  have hoL : (((s.heap.push (seqObj "list" #[] 0)).update s.heap.objs.size (Obj.mapSeq (· ++ vs.toArray))).push (seqObj "list" vs.toArray 0)).get? (s.heap.objs.size + 1) = some (seqObj "list" vs.toArray 0) := by
    rw [← hsz]; exact Heap.get?_push_size _ rfl
  have keep : ∀ b o, s.heap.get? b = some o → b ≠ s.heap.objs.size + 1 ∧ (((s.heap.push (seqObj "list" #[] 0)).update s.heap.objs.size (Obj.mapSeq (· ++ vs.toArray))).push (seqObj "list" vs.toArray 0)).get? b = some o := fun b o q => by
    have hlt : b < s.heap.objs.size := Heap.lt_size q
    refine ⟨Nat.ne_of_lt (Nat.lt_succ_of_lt hlt), Heap.get?_push_of_some _ ?_⟩
    rw [Heap.get?_update_ne _ _ _ _ (Nat.ne_of_lt hlt)]
    exact Heap.get?_push_of_some _ q
  show wpAny _ _ _ _ _ { s with heap := ((s.heap.push (seqObj "list" #[] 0)).update s.heap.objs.size (Obj.mapSeq (· ++ vs.toArray))).push (seqObj "list" vs.toArray 0) }
  rw [hsz]
  refine wpAny_bind (wpAny_holding (wpAny_call_entry slot_list_sort ⟨_, hoL, rfl⟩ entry_list_sort (list_sort_ord O hoL hz (fun h2 => hS h2 _ _ hoL keep) fun out hs hb => ⟨_, rfl, ?_⟩) (args_list_sort _)))
  exact wpAny_pure ⟨_, rfl, h out hs hb⟩
end
def rSortTI (K : PySem.W.Frag) : List V → Hp → VK → Prop := fun vs H Q => ∃ (a : Addr) (ns : List Int), vs = [V.ref a] ∧ SqT K H a (ns.map V.int) ∧ ∀ (ns' : List Int) (p : Addr), ns'.Perm ns → ns'.Pairwise (· ≤ ·) → H p = none → Q (.ref p) (upd H p (.lst (ns'.map V.int)))
theorem cr_sortTI {X : Cx} : CallR X (.builtin "sorted") (rSortTI X.K) := by
  intro pins s σ H vs us Q I r h
  obtain ⟨a, ns, rfl, hs, q⟩ := h
  obtain ⟨its, rv, hl, hz⟩ := I.tuple hs
  rw [L2.Vals.ref1 r]
  have hi := rv.ints
  refine sorted_ordT SrtO.swo_int (show s.heap.IsTuple a its.toArray from hl) (by rw [← rv.length]; exact hz) (fun h2 h₁ a' _ _ => SrtO.ints_sortable hi h2) fun out h1 h2 => ?_
  obtain ⟨k1, k2, k3⟩ := SrtO.ints_out hi h1 h2
  obtain ⟨ep, he'⟩ := PyProof.Rows.sortedAll_at s.heap its out.toArray
  have hlen : ((out.map SrtO.iv).map V.int).length ≤ sizeLine := by
    rw [List.length_map, k2.length_eq]
    rw [List.length_map] at hz
    exact hz
  exact ⟨.ref _, upd H (s.heap.objs.size + 1) (.lst ((out.map SrtO.iv).map V.int)), I.laid (t' := s.toks) (fun _ _ => PyProof.Rows.sortedAll_old) (Nat.le_succ _) ⟨hlen, out, ep, L2.vals_of_ints k1, he'⟩, rfl, q _ _ k2 k3 (I.hok.fresh (Nat.le_succ _))⟩
end Rb
namespace Rb
open PySem PySem.Spec L2
section
variable {X : Cx} {ρ : List Sl} {sc : Scope} {N : List Str} {k : Nat} {a : Expr} {pos p : Pos} {ns : List Int}
theorem e_sortT [fx : Fx X sc N k] (ha : DE X ρ a (.tuple (ns.map .int))) (hg : glB sc "sorted" = true := by decide +kernel) (he : starEach [a] X.env = [(false, eval a X.env)] := by rfl) : DE X ρ (.Call (.Name "sorted" p) [a] [] pos) (.list ((sortI ns).map .int)) :=
  DP.callB cr_sortTI ha (by
    intro F H x da Q s i1 pa q
    subst pa
    obtain ⟨p, vs, rfl, h1, h2, h3, h4⟩ := i1.tup_inv
    have e := dqA_ints_inv h2
    subst e
    refine ⟨p, ns, rfl, (h1.mono s).sq, fun ms l hp hw hl => ?_⟩
    have e := sortI_eq hp hw
    subst e
    exact new_lst s (dqA_ints _) (by rw [List.length_map, hp.length_eq]; simpa using h3) (fun d hd => by obtain ⟨i, _, rfl⟩ := List.mem_map.mp hd; exact sz_int i) q l hl) bn_sorted (by decide +kernel) (by decide) (by decide) hg he
end
end Rb
/-! the false formula -/
namespace Rb
open PySem PySem.Spec L2
/-! ### cubes -/
theorem Ls.up {n m : Nat} {c : List Int} (h : Ls n c) (hm : n ≤ m) : Ls m c := ⟨h.1, fun l hl => by have := h.2.1 l hl; omega, h.2.2⟩
theorem Ls.add {n : Nat} {c : List Int} {l : Int} (h : Ls n c) (hl : l = (n : Int) + 1 ∨ l = -((n : Int) + 1)) : Ls (n + 1) (c ++ [l]) := by
  refine ⟨?_, fun y hy => ?_, fun y hy hy2 => ?_⟩
  · rw [List.nodup_append]
    refine ⟨h.1, by simp, fun a ha b hb e => ?_⟩
    rw [List.mem_singleton] at hb
    have := h.2.1 a ha
    omega
  · rcases List.mem_append.mp hy with hy | hy
    · have := h.2.1 y hy; omega
    · rw [List.mem_singleton.mp hy]; omega
  · rcases List.mem_append.mp hy with hy | hy
    · rcases List.mem_append.mp hy2 with hy2 | hy2
      · exact h.2.2 y hy hy2
      · have := h.2.1 y hy; have := List.mem_singleton.mp hy2; omega
    · have e := List.mem_singleton.mp hy
      rcases List.mem_append.mp hy2 with hy2 | hy2
      · have := h.2.1 _ hy2; omega
      · have := List.mem_singleton.mp hy2; omega
theorem growC_cl (n : Nat) : ∀ c ∈ growC n, Cl n c := by
  induction n with
  | zero => intro c hc; cases hc with | head => exact ⟨.nil, (fun _ h => by cases h), (fun _ h => by cases h)⟩ | tail _ h => cases h
  | succ n ih =>
    intro c hc
    rw [growC_succ] at hc
    rcases List.mem_append.mp hc with h | h
    · exact ⟨(ih c h).1, ((ih c h).ls.up (Nat.le_succ n)).2⟩
    · obtain ⟨c0, h0, h1⟩ := List.mem_flatMap.mp h
      have hl := (ih c0 h0).ls
      rcases List.mem_cons.mp h1 with rfl | h1
      · exact (hl.add (l := -(1 + (n : Int))) (by omega)).sort
      · rw [List.mem_singleton.mp h1]
        exact (hl.add (l := 1 + (n : Int)) (by omega)).sort
theorem Cl.uniq {n : Nat} {a b : List Int} (ha : Cl n a) (hb : Ls n b) (h : ∀ l, l ∈ a ↔ l ∈ b) : a = sortI b :=
  sortI_eq ((List.perm_ext_iff_of_nodup ha.ls.1 hb.1).mpr h) (ha.1.imp fun h => Int.le_of_lt h)
theorem cl_growC : ∀ (n : Nat) (c : List Int), Cl n c → c ∈ growC n
  | 0, c, h => by
    cases c with
    | nil => exact List.mem_cons_self
    | cons x c => have := h.2.1 x List.mem_cons_self; omega
  | n + 1, c, h => by
    rw [growC_succ, List.mem_append]
    have key : ∀ v : Int, (v = (n : Int) + 1 ∨ v = -((n : Int) + 1)) → v ∈ c → c ∈ stepC (growC n) (1 + (n : Nat)) := fun v hv hc => by
      have hnv : -v ∉ c := h.2.2 v hc
      have hc' : Cl n (c.filter fun l => !decide (l = v)) := by
        refine ⟨h.1.filter _, fun l hl => ?_, fun l hl hl2 => h.2.2 l (List.mem_filter.mp hl).1 (List.mem_filter.mp hl2).1⟩
        have hl' := List.mem_filter.mp hl
        have h1 := h.2.1 l hl'.1
        have h2 : l ≠ v := by simpa using hl'.2
        have h3 : l ≠ -v := fun e => hnv (e ▸ hl'.1)
        omega
      have e : c = withC (c.filter fun l => !decide (l = v)) v := Cl.uniq h (hc'.ls.add hv) fun l => by
        rw [List.mem_append, List.mem_filter, List.mem_singleton]
        constructor
        · intro hl
          by_cases q : l = v
          · exact .inr q
          · exact .inl ⟨hl, by simpa using q⟩
        · rintro (⟨hl, _⟩ | rfl)
          · exact hl
          · exact hc
      refine List.mem_flatMap.mpr ⟨_, cl_growC n _ hc', ?_⟩
      rcases hv with rfl | rfl
      · rw [show (1 + (n : Int)) = (n : Int) + 1 by omega]
        exact List.mem_cons_of_mem _ (List.mem_singleton.mpr e)
      · rw [show (1 + (n : Int)) = (n : Int) + 1 by omega, ← e]
        exact List.mem_cons_self
    by_cases h1 : ((n : Int) + 1) ∈ c
    · exact .inr (key _ (.inl rfl) h1)
    · by_cases h2 : -((n : Int) + 1) ∈ c
      · exact .inr (key _ (.inr rfl) h2)
      · refine .inl (cl_growC n c ⟨h.1, fun l hl => ?_, h.2.2⟩)
        have := h.2.1 l hl
        have q1 : l ≠ (n : Int) + 1 := fun e => h1 (e ▸ hl)
        have q2 : l ≠ -((n : Int) + 1) := fun e => h2 (e ▸ hl)
        omega
theorem stepC_full (v : Int) (m : Nat) : ∀ f : List (List Int), ((stepC f v).filter fun c => decide (c.length = m + 1)).length = 2 * (f.filter fun c => decide (c.length = m)).length
  | [] => rfl
  | c :: f => by
    have e : stepC (c :: f) v = withC c (-v) :: withC c v :: stepC f v := by unfold stepC; rw [List.flatMap_cons]; rfl
    have ih := stepC_full v m f
    have l1 := withC_len c (-v)
    have l2 := withC_len c v
    rw [e]
    by_cases q : c.length = m
    · rw [List.filter_cons_of_pos (by rw [decide_eq_true_iff]; omega), List.filter_cons_of_pos (by rw [decide_eq_true_iff]; omega), List.filter_cons_of_pos (by rw [decide_eq_true_iff]; exact q), List.length_cons, List.length_cons, List.length_cons, ih]
      omega
    · rw [List.filter_cons_of_neg (by rw [decide_eq_true_iff]; omega), List.filter_cons_of_neg (by rw [decide_eq_true_iff]; omega), List.filter_cons_of_neg (by rw [decide_eq_true_iff]; exact q), ih]
theorem full_count (n : Nat) : ((growC n).filter fun c => decide (c.length = n)).length = 2 ^ n := by
  induction n with
  | zero => rfl
  | succ n ih =>
    rw [growC_succ, List.filter_append, List.length_append, stepC_full, ih, List.filter_eq_nil_iff.mpr fun c hc => by have := growC_small n c hc; rw [decide_eq_true_iff]; omega, Nat.pow_succ]
    simp; omega
def isMod (n : Nat) (cs : List (List Int)) (c : List Int) : Bool := decide (c.length = n) && decide (leafI cs c < 0)
theorem leaf_neg {cs : List (List Int)} {c : List Int} : leafI cs c < 0 ↔ ∀ d ∈ cs, fails c d = false := by
  constructor
  · intro h d hd
    unfold leafI at h
    cases q : cs.findIdx? (fails c) with
    | none => exact (List.findIdx?_eq_none_iff.mp q) d hd
    | some k =>
      rw [q] at h
      have h' : ((k : Nat) : Int) < 0 := h
      omega
  · intro h; rw [leaf_none h]; decide
def mods (n : Nat) (cs : List (List Int)) : Nat := ((cubes n).filter (isMod n cs)).length
theorem mods_le (n : Nat) (cs : List (List Int)) : mods n cs ≤ 2 ^ n := by
  unfold mods
  rw [← full_count n]
  have h1 : ((cubes n).filter (isMod n cs)).length = ((growC n).filter (isMod n cs)).length := ((sortC_perm (growC n)).filter _).length_eq
  rw [h1]
  have : ∀ xs : List (List Int), (xs.filter (isMod n cs)).length ≤ (xs.filter fun c => decide (c.length = n)).length := by
    intro xs
    induction xs with
    | nil => exact Nat.le_refl _
    | cons x xs ih =>
      by_cases q : isMod n cs x = true
      · have q2 : x.length = n := by unfold isMod at q; rw [Bool.and_eq_true] at q; exact of_decide_eq_true q.1
        rw [List.filter_cons_of_pos q, List.filter_cons_of_pos (by rw [decide_eq_true_iff]; exact q2), List.length_cons, List.length_cons]; omega
      · rw [List.filter_cons_of_neg q]
        by_cases q2 : x.length = n
        · rw [List.filter_cons_of_pos (by rw [decide_eq_true_iff]; exact q2), List.length_cons]; omega
        · rw [List.filter_cons_of_neg (by rw [decide_eq_true_iff]; exact q2)]; exact ih
  exact this _
theorem filter_lt {α : Type} {p q : α → Bool} (h : ∀ x, q x = true → p x = true) {x0 : α} : ∀ {xs : List α}, x0 ∈ xs → p x0 = true → q x0 = false → (xs.filter q).length < (xs.filter p).length
  | [], hx, _, _ => by cases hx
  | x :: xs, hx, hp, hq => by
    have le : ∀ ys : List α, (ys.filter q).length ≤ (ys.filter p).length := fun ys => by
      induction ys with
      | nil => exact Nat.le_refl _
      | cons y ys ih =>
        by_cases c : q y = true
        · rw [List.filter_cons_of_pos c, List.filter_cons_of_pos (h y c), List.length_cons, List.length_cons]; omega
        · rw [List.filter_cons_of_neg c]
          by_cases c2 : p y = true
          · rw [List.filter_cons_of_pos c2, List.length_cons]; omega
          · rw [List.filter_cons_of_neg c2]; exact ih
    rcases List.mem_cons.mp hx with rfl | hx
    · rw [List.filter_cons_of_pos hp, List.filter_cons_of_neg (by rw [hq]; exact Bool.false_ne_true), List.length_cons]
      have := le xs; omega
    · have ih := filter_lt h hx hp hq
      by_cases c : q x = true
      · rw [List.filter_cons_of_pos c, List.filter_cons_of_pos (h x c), List.length_cons, List.length_cons]; omega
      · rw [List.filter_cons_of_neg c]
        by_cases c2 : p x = true
        · rw [List.filter_cons_of_pos c2, List.length_cons]; omega
        · rw [List.filter_cons_of_neg c2]; exact ih
theorem negC_mem {c : List Int} {l : Int} : l ∈ negC c ↔ -l ∈ c := by
  unfold negC
  rw [sortI_mem, List.mem_map]
  constructor
  · rintro ⟨a, ha, rfl⟩; rw [Int.neg_neg]; exact ha
  · intro h; exact ⟨-l, h, Int.neg_neg l⟩
theorem fails_iff {cube c : List Int} : fails cube c = true ↔ ∀ l ∈ c, -l ∈ cube := by
  unfold fails
  rw [within_iff]
  constructor
  · intro h l hl; exact h (-l) (negC_mem.mpr (by rw [Int.neg_neg]; exact hl))
  · intro h x hx; have := h (-x) (negC_mem.mp hx); rwa [Int.neg_neg] at this
theorem mods_less {n : Nat} {cs : List (List Int)} {c0 c : List Int} (h : modelO n cs = some c0) (hc : ∀ l ∈ c, -l ∈ c0) : mods n (sortC (cs ++ [c])) < mods n cs := by
  have hm : c0 ∈ cubes n ∧ isMod n cs c0 = true := by
    unfold modelO at h
    exact ⟨List.mem_of_find?_eq_some h, List.find?_some h⟩
  refine filter_lt (fun x hx => ?_) hm.1 hm.2 ?_
  · unfold isMod at *
    rw [Bool.and_eq_true] at *
    refine ⟨hx.1, decide_eq_true (leaf_neg.mpr fun d hd => leaf_neg.mp (of_decide_eq_true hx.2) d (sortC_mem.mpr (List.mem_append_left _ hd)))⟩
  · unfold isMod
    rw [Bool.and_eq_false_iff]
    refine .inr (decide_eq_false fun hl => ?_)
    have := leaf_neg.mp hl c (sortC_mem.mpr (List.mem_append_right _ (List.mem_singleton.mpr rfl)))
    rw [fails_iff.mpr hc] at this
    cases this
theorem model_none {n : Nat} {cs : List (List Int)} (h : mods n cs = 0) : modelO n cs = none := by
  unfold modelO
  rw [List.find?_eq_none]
  intro c hc q
  have : c ∈ (cubes n).filter (isMod n cs) := List.mem_filter.mpr ⟨hc, q⟩
  rw [List.eq_nil_of_length_eq_zero h] at this
  cases this
theorem Comp.sub {Pt : Nat → PyData → Bool → Prop} {g : PyData → PyData} {ds es : List PyData} (h : Comp Pt (fun _ d y => y = g d) ds es) : es.Sublist (ds.map g) := by
  induction h with
  | nil => exact .slnil
  | out _ _ ih => rw [List.map_append]; exact ih.trans (List.sublist_append_left _ _)
  | keep _ _ q ih => rw [List.map_append, q]; exact ih.append (.refl _)
theorem ints_sub : ∀ {es : List PyData} {ns : List Int}, es.Sublist (ns.map .int) → ∃ ms : List Int, es = ms.map .int ∧ ms.Sublist ns
  | es, [], h => by
    have h' : es.Sublist [] := h
    rw [List.sublist_nil] at h'
    exact ⟨[], h', .slnil⟩
  | es, n :: ns, h => by
    have h' : es.Sublist (.int n :: ns.map .int) := h
    rcases List.sublist_cons_iff.mp h' with h1 | ⟨r, rfl, h1⟩
    · obtain ⟨ms, e, s⟩ := ints_sub h1
      exact ⟨ms, e, s.cons _⟩
    · obtain ⟨ms, e, s⟩ := ints_sub h1
      exact ⟨n :: ms, by rw [e]; rfl, s.cons₂ _⟩
theorem Ls.neg {n : Nat} {c : List Int} (h : Ls n c) : Ls n (c.map fun l => -l) := by
  refine ⟨?_, fun y hy => ?_, fun y hy hy2 => ?_⟩
  · have := List.nodup_iff_pairwise_ne.mp h.1
    rw [List.nodup_iff_pairwise_ne, List.pairwise_map]
    exact this.imp fun h e => h (by omega)
  · obtain ⟨l, hl, rfl⟩ := List.mem_map.mp hy
    have := h.2.1 l hl
    omega
  · obtain ⟨l, hl, rfl⟩ := List.mem_map.mp hy
    obtain ⟨l2, hl2, e⟩ := List.mem_map.mp hy2
    exact h.2.2 l hl (by rw [show -l = l2 by omega]; exact hl2)
theorem Ls.sub {n : Nat} {c c' : List Int} (h : Ls n c) (s : c'.Sublist c) : Ls n c' := ⟨h.1.sublist s, fun l hl => h.2.1 l (s.subset hl), fun l hl h2 => h.2.2 l (s.subset hl) (s.subset h2)⟩
def negD : PyData → PyData
  | .int l => .int (-l)
  | d => d
def FalseD (d : PyData) : Prop := ∃ n cs, d = fD n cs ∧ 1 ≤ n ∧ Fm n cs ∧ modelO n cs = none
section
variable {X : Cx} {k : Nat}
theorem d_Lfalse (A : Addr) [Fx X (defScope sL_false_formula) nL_false_formula k] [Fl X] (hk : 4 ≤ k) (h1 : Hs X "_law_draw" 2 pLdraw) (h2 : Hs X "_law_drawn_formula" 4 pLdrawn) (h3 : Hs X "_law_model" 4 pModel) :
    DS X [.own A PoolOk, .dat (.int 4), .any, .any, .any, .any, .any] (defBody sL_false_formula) (EndK [.own A PoolOk, .dat (.int 4)] FalseD) := by
  refine s_asgP 2 rfl (e_own1 (A := A) 0 rfl rfl h2 A [.int 4] rfl (a_d (e_v 1 rfl rfl) a_nil) trivial hk) ?_
  rintro _ ⟨n, cs0, rfl, n1, n4, hc0, hl0⟩
  have p16 : 2 ^ n ≤ 16 := Nat.le_trans (Nat.pow_le_pow_right (by decide) n4) (by decide)
  refine s_forN 3 rfl (i_r0 (n := 2 ^ n) (DE.to (e_shl (i := 1) (j := n) e_int (e_ixT (e_v 2 rfl rfl) e_int rfl) ⟨by omega, by omega, by decide⟩) (by rw [Int.toNat_natCast, Int.one_mul]; congr 1)) (by omega))
    (fun ds m ρ' => ∃ cs s3 s4 s5, ρ' = [.own A PoolOk, .dat (.int 4), .dat (fD n cs), s3, s4, s5, .any] ∧ (∀ c ∈ cs, Cl n c) ∧ cs.length ≤ 6 + m ∧ (mods n cs + m ≤ 2 ^ n ∨ mods n cs = 0))
    (fun ds _ => ⟨cs0, _, _, _, rfl, hc0, by omega, .inl (mods_le n cs0)⟩) ?_ ?_
  · rintro ds m d ρ' rfl hd ⟨cs, s3, s4, s5, rfl, hc, hl, hmo⟩
    have hm : m < 2 ^ n := by have := (List.getElem?_eq_some_iff.mp hd).1; simpa using this
    rw [List.getElem?_map, List.getElem?_range hm] at hd
    cases hd
    refine s_asg 4 rfl (e_call h3 (n, cs) (a_d (e_v 2 rfl rfl) a_nil) ⟨n4, (by show cs.length ≤ 1000; omega)⟩ (by omega)) ?_
    cases hmod : modelO n cs with
    | none =>
      refine s_ifF (t_F (t_notN (e_v 4 rfl rfl)) (by rw [show oD none = PyData.none from rfl]; rfl)) (s_nil (s_nil ⟨cs, _, _, _, rfl, hc, by omega, .inr ?_⟩))
      unfold modelO at hmod
      have e : (cubes n).filter (isMod n cs) = [] := List.filter_eq_nil_iff.mpr fun c hc q => (List.find?_eq_none.mp hmod) c hc q
      unfold mods
      rw [e]
      rfl
    | some c0 =>
      have hm0 : c0 ∈ cubes n ∧ isMod n cs c0 = true := by
        have h := hmod
        unfold modelO at h
        exact ⟨List.mem_of_find?_eq_some h, List.find?_some h⟩
      have cl0 : Cl n c0 := growC_cl n c0 (growC_cubes.mp hm0.1)
      have len0 : c0.length = n := by have := hm0.2; unfold isMod at this; rw [Bool.and_eq_true] at this; exact of_decide_eq_true this.1
      have hmods : mods n cs + m ≤ 2 ^ n := by
        rcases hmo with h | h
        · exact h
        · exfalso
          have : c0 ∈ (cubes n).filter (isMod n cs) := List.mem_filter.mpr hm0
          unfold mods at h
          rw [List.eq_nil_of_length_eq_zero h] at this
          cases this
      -- the clause: negated literals of the model
      let Neg : PyData → Prop := fun d => ∃ c : List Int, d = .tuple (c.map .int) ∧ Ls n c ∧ ∀ l ∈ c, -l ∈ c0
      refine s_ifT (t_T (t_notN (e_v 4 rfl rfl)) rfl) (s_asgP (Pa := Neg) 5 rfl (DP.imp (e_tupLP (Pl := fun ds => ∃ c : List Int, ds = c.map .int ∧ Ls n c ∧ ∀ l ∈ c, -l ∈ c0) (DP.imp (e_lcK (l_lcP (Pl := fun ds => ds = c0.map .int) (Pt := fun _ _ _ => True) (Pe := fun _ d y => y = negD d) 6 (i_T (e_v 4 rfl rfl)) rfl
        (fun s H C cl fp j d ds fx' _ _ => ts_1 (DQ.imp (q_gtP (Pq := fun _ => True) (e_draw (A := A) 0 rfl rfl h1 e_int (by decide) (by omega)) e_int (fun _ _ => trivial)) fun _ _ => trivial))
        (fun s H C cl fp j d ds fx' e hd _ => ?_))) ?_)) ?_) ?_)
      · subst e
        rw [List.getElem?_map] at hd
        cases hq : c0[j]? with
        | none => rw [hq] at hd; cases hd
        | some l =>
          rw [hq] at hd
          cases hd
          exact e_neg (e_v 6 rfl rfl)
      · rintro _ ⟨ds, es, rfl, rfl, hcmp⟩
        refine ⟨es, rfl, ?_⟩
        have hs := hcmp.sub
        rw [List.map_map] at hs
        have e : (c0.map (negD ∘ PyData.int)) = (c0.map fun l => -l).map .int := by rw [List.map_map]; rfl
        rw [e] at hs
        obtain ⟨ms, rfl, hsub⟩ := ints_sub hs
        exact ⟨ms, rfl, cl0.ls.neg.sub hsub, fun l hl => by obtain ⟨y, hy, rfl⟩ := List.mem_map.mp (hsub.subset hl); rw [Int.neg_neg]; exact hy⟩
      · rintro d ⟨ds, rfl, c, rfl, h1, h2⟩
        exact ⟨c, rfl, h1, h2⟩
      · rintro _ ⟨c, rfl, hls, hneg⟩
        refine s_if (Pm := fun o => match o with | .nx ρ' => ∃ (c : List Int) (s3 s4 : Sl), ρ' = [.own A PoolOk, .dat (.int 4), .dat (fD n cs), s3, s4, .dat (.tuple (c.map .int)), .any] ∧ Ls n c ∧ ∀ l ∈ c, -l ∈ c0 | _ => False) (Qc := fun _ => True)
          (DQ.imp (t_eq (e_lenT (e_v 5 rfl rfl)) e_int) fun _ _ => trivial) (fun _ => ?_) (fun _ => s_nil ⟨c, _, _, rfl, hls, hneg⟩) ?_ (fun _ _ h => h.elim) (fun _ _ h => h.elim)
        · refine s_asgP 5 rfl (e_tupP (Pd := fun ds => ∃ l : Int, ds = [.int l] ∧ -l ∈ c0) (a_dat (e_negP (Pi := fun l => l ∈ c0) (e_ixTP (Pi := fun j => 0 ≤ j ∧ j < (n : Int)) (e_v 4 rfl rfl) (e_draw (A := A) (many := (n : Int)) 0 rfl rfl h1 (DE.to (e_lenT (e_v 4 rfl rfl)) (by rw [List.length_map, len0])) (by omega) (by omega)) (fun j hj => ?_))) a_nil) ?_) ?_
          · obtain ⟨x, hx⟩ := atI_lt (xs := c0) hj.1 (by rw [len0]; exact hj.2)
            exact ⟨PyData.int x, by rw [atI_map, hx]; rfl, x, rfl, atI_mem hx⟩
          · rintro as ⟨d, r, rfl, ⟨l, rfl, hl⟩, rfl⟩
            exact ⟨[PyData.int (-l)], rfl, by show 1 ≤ sizeLine; decide, -l, rfl, by rw [Int.neg_neg]; exact hl⟩
          · rintro _ ⟨ds, rfl, l, rfl, hl⟩
            have hln := cl0.2.1 _ hl
            exact s_nil ⟨[l], _, _, rfl, ⟨by simp, fun y hy => by rw [List.mem_singleton.mp hy]; omega, fun y hy hy2 => by rw [List.mem_singleton] at hy hy2; omega⟩, fun y hy => by rw [List.mem_singleton.mp hy]; exact hl⟩
        · rintro ρ' ⟨c, s3, s4, rfl, hls, hneg⟩
          refine s_asg (d := fD n (sortC (cs ++ [sortI c]))) 2 rfl (e_tup (ds := [.int n, .tuple ((sortC (cs ++ [sortI c])).map cD)]) (a_d (e_ixT (e_v 2 rfl rfl) e_int rfl) (a_d (e_tupL (e_sortC (cs := cs ++ [sortI c]) (DE.to (e_cat (e_listT (e_ixT (e_v 2 rfl rfl) e_int rfl)) (e_lst (ds := [cD (sortI c)]) (a_d (e_tupL (e_sortT (e_v 5 rfl rfl))) a_nil)) ?_) ?_))) a_nil))) (s_nil (s_nil ⟨_, _, _, _, rfl, ?_, ?_, .inl ?_⟩))
          · rw [List.length_map, sizeLine_eq]; simp; omega
          · rw [List.map_append]; rfl
          · intro x hx
            rcases List.mem_append.mp (sortC_mem.mp hx) with h | h
            · exact hc x h
            · rw [List.mem_singleton.mp h]; exact hls.sort
          · rw [(sortC_perm _).length_eq, List.length_append]; simp; omega
          · have := mods_less hmod (c := sortI c) fun l hl => hneg l (sortI_mem.mp hl)
            omega
  · rintro ds ρ' rfl ⟨cs, s3, s4, s5, rfl, hc, hl, hmo⟩
    rw [List.length_map, List.length_range] at hl hmo
    have hmo : mods n cs = 0 := by omega
    refine s_ret (e_v 2 rfl rfl) ⟨⟨n, cs, rfl, n1, ⟨n4, by omega, hc⟩, model_none hmo⟩, ?_⟩
    intro t ht
    rcases List.mem_cons.mp ht with rfl | ht
    · exact .inr List.mem_cons_self
    · exact .inl ⟨_, List.mem_singleton.mp ht⟩
abbrev pLfalse : Sp := spK (T := Addr) (fun A => [.own A PoolOk, .dat (.int 4)]) (fun _ => True) (fun _ => FalseD)
end
end Rb
/-! the tree -/
namespace Rb
open PySem PySem.Spec L2
inductive Tr where
  | leaf (k : Nat)
  | ask (v : Nat) (l r : Tr)
def tD : Tr → PyData
  | .leaf k => .tuple [.str "leaf", .int k]
  | .ask v l r => .tuple [.str "ask", .int v, tD l, tD r]
def TrOk (n : Nat) (cs : List (List Int)) : List Int → Tr → Prop
  | cube, .leaf k => ∃ c, cs[k]? = some c ∧ fails cube c = true
  | cube, .ask v l r => 1 ≤ v ∧ v ≤ n ∧ (v : Int) ∉ cube ∧ -(v : Int) ∉ cube ∧ TrOk n cs (withC cube (-(v : Int))) l ∧ TrOk n cs (withC cube v) r
def trSz : Tr → Nat
  | .leaf _ => 2
  | .ask _ l r => 1 + trSz l + trSz r
theorem Cl.len1 {n : Nat} {c : List Int} (h : Cl n c) : c.length ≤ n := by
  have hn : (c.map fun l => absI l - 1).Nodup := by
    rw [List.nodup_iff_pairwise_ne, List.pairwise_map]
    exact (List.Pairwise.and_mem.mp (List.nodup_iff_pairwise_ne.mp h.ls.1)).imp fun {a b} ⟨h1, h2, h3⟩ e => h3 (absI_inj h h1 h2 (by omega))
  have := nodup_range _ n hn fun l hl => by
    obtain ⟨y, hy, rfl⟩ := List.mem_map.mp hl
    have := h.2.1 y hy
    unfold absI
    split <;> omega
  rwa [List.length_map] at this
theorem free_mem {n : Nat} {cube : List Int} {v : Int} : v ∈ freeV n cube ↔ 1 ≤ v ∧ v ≤ n ∧ v ∉ cube ∧ -v ∉ cube := by
  unfold freeV
  rw [List.mem_map]
  constructor
  · rintro ⟨i, hi, rfl⟩
    obtain ⟨h1, h2⟩ := List.mem_filter.mp hi
    have := List.mem_range.mp h1
    rw [Bool.and_eq_true] at h2
    exact ⟨by omega, by omega, by simpa using h2.1, by simpa using h2.2⟩
  · rintro ⟨h1, h2, h3, h4⟩
    refine ⟨(v - 1).toNat, List.mem_filter.mpr ⟨List.mem_range.mpr (by omega), ?_⟩, by omega⟩
    rw [show (1 + (((v - 1).toNat : Nat) : Int)) = v by omega]
    simp [h3, h4]
theorem Ls.addV {n : Nat} {c : List Int} {l : Int} (h : Ls n c) (h0 : l ≠ 0 ∧ -(n : Int) ≤ l ∧ l ≤ n) (h1 : l ∉ c) (h2 : -l ∉ c) : Ls n (c ++ [l]) := by
  refine ⟨?_, fun y hy => ?_, fun y hy hy2 => ?_⟩
  · rw [List.nodup_append]
    refine ⟨h.1, by simp, fun a ha b hb e => ?_⟩
    rw [List.mem_singleton] at hb
    exact h1 (by rw [← hb, ← e]; exact ha)
  · rcases List.mem_append.mp hy with hy | hy
    · exact h.2.1 y hy
    · rw [List.mem_singleton.mp hy]; exact h0
  · rcases List.mem_append.mp hy with hy | hy
    · rcases List.mem_append.mp hy2 with hy2 | hy2
      · exact h.2.2 y hy hy2
      · have e := List.mem_singleton.mp hy2
        exact h2 (by rw [← e, Int.neg_neg]; exact hy)
    · have e := List.mem_singleton.mp hy
      subst e
      rcases List.mem_append.mp hy2 with hy2 | hy2
      · exact h2 hy2
      · have e := List.mem_singleton.mp hy2
        omega
theorem withC_cl {n : Nat} {c : List Int} {l : Int} (h : Cl n c) (h0 : l ≠ 0 ∧ -(n : Int) ≤ l ∧ l ≤ n) (h1 : l ∉ c) (h2 : -l ∉ c) : Cl n (withC c l) := (h.ls.addV h0 h1 h2).sort
theorem withC_mem {c : List Int} {l x : Int} : x ∈ withC c l ↔ x ∈ c ∨ x = l := by unfold withC; rw [sortI_mem, List.mem_append, List.mem_singleton]
/-- a cube without a free variable falsifies a clause -/
theorem full_leaf {n : Nat} {cs : List (List Int)} {cube : List Int} (hm : modelO n cs = none) (hc : Cl n cube) (hf : freeV n cube = []) : 0 ≤ leafI cs cube := by
  have hall : ∀ v : Int, 1 ≤ v → v ≤ n → v ∈ cube ∨ -v ∈ cube := fun v h1 h2 => by
    by_cases a : v ∈ cube
    · exact .inl a
    · by_cases b : -v ∈ cube
      · exact .inr b
      · have := free_mem.mpr ⟨h1, h2, a, b⟩
        rw [hf] at this
        cases this
  have hlen : cube.length = n := by
    have h1 := hc.len1
    have h2 : n ≤ cube.length := by
      have hsub : ∀ i, i < n → ((1 : Int) + (i : Nat)) ∈ cube.map absI := fun i hi => by
        rcases hall (1 + (i : Nat)) (by omega) (by omega) with h | h
        · exact List.mem_map.mpr ⟨_, h, by unfold absI; split <;> omega⟩
        · exact List.mem_map.mpr ⟨_, h, by unfold absI; split <;> omega⟩
      have hnd : ((List.range n).map fun i : Nat => (1 : Int) + (i : Nat)).Nodup := by
        rw [List.nodup_iff_pairwise_ne, List.pairwise_map]
        exact (List.nodup_iff_pairwise_ne.mp List.nodup_range).imp fun h e => h (by omega)
      have := List.Nodup.length_le_of_subset hnd (l₂ := cube.map absI) fun x hx => by
        obtain ⟨i, hi, rfl⟩ := List.mem_map.mp hx
        exact hsub i (List.mem_range.mp hi)
      simpa using this
    omega
  have hcu : cube ∈ cubes n := growC_cubes.mpr (cl_growC n cube hc)
  unfold modelO at hm
  have := (List.find?_eq_none.mp hm) cube hcu
  rw [Bool.and_eq_true, decide_eq_true_iff, decide_eq_true_iff] at this
  omega
structure TrT where
  A : Addr
  n : Nat
  cs : List (List Int)
  cube : List Int
def TrPre (d : Nat) (t : TrT) : Prop := Fm t.n t.cs ∧ modelO t.n t.cs = none ∧ Cl t.n t.cube ∧ t.n ≤ t.cube.length + d
def TrD (d : Nat) (t : TrT) (y : PyData) : Prop := ∃ tr, y = tD tr ∧ TrOk t.n t.cs t.cube tr ∧ trSz tr + 1 ≤ 3 * 2 ^ d
abbrev pLtree (d : Nat) : Sp := spK (T := TrT) (fun t => [.own t.A PoolOk, .dat (fD t.n t.cs), .dat (cD t.cube)]) (TrPre d) (TrD d)
section
variable {X : Cx} {k : Nat}
theorem d_Ltree (d : Nat) (t : TrT) (hp : TrPre d t) [Fx X (defScope sL_some_tree) nL_some_tree k] [Fl X] (hk : 3 ≤ k) (h1 : Hs X "_law_draw" 2 pLdraw) (h2 : Hs X "_law_leaf" 3 pLeaf) (h3 : Hs X "_law_free" 1 pFree) (h4 : Hs X "_law_fails" 2 pFails) (h5 : Hs X "_law_with" 1 pWith) (hr : ∀ d', d = d' + 1 → 4 + d' ≤ k ∧ Hs X "_law_some_tree" (4 + d') (pLtree d')) :
    DS X [.own t.A PoolOk, .dat (fD t.n t.cs), .dat (cD t.cube), .any, .any, .any, .any, .any] (defBody sL_some_tree) (EndK [.own t.A PoolOk, .dat (fD t.n t.cs), .dat (cD t.cube)] (TrD d t)) := by
  obtain ⟨A, n, cs, cube⟩ := t
  obtain ⟨hf, hm, hc, hd⟩ := hp
  simp only at hf hm hc hd ⊢
  have keep : ∀ (ρ : List Sl), Sl.own A PoolOk ∈ ρ → ∀ s ∈ [Sl.own A PoolOk, .dat (fD n cs), .dat (cD cube)], (∃ d, s = .dat d) ∨ s ∈ ρ := fun ρ h t ht => by
    rcases List.mem_cons.mp ht with rfl | ht
    · exact .inr h
    · rcases List.mem_cons.mp ht with rfl | ht
      · exact .inl ⟨_, rfl⟩
      · exact .inl ⟨_, List.mem_singleton.mp ht⟩
  have n4 : n ≤ 4 := hf.1
  refine s_asg 3 rfl (e_call h2 (n, cs, cube) (a_d (e_v 1 rfl rfl) (a_d (e_v 2 rfl rfl) a_nil)) hf.z hk) (s_ifRP (Qc := fun b => (b = true → 0 ≤ leafI cs cube) ∧ (b = false → leafI cs cube < 0 ∨ freeV n cube ≠ []))
    (t_w (w_andP (Qa := fun b => b = decide (0 ≤ leafI cs cube)) (Qb := fun b => b = false → freeV n cube ≠ []) (t_ge (e_v 3 rfl rfl) e_int) (fun _ => w_1a (t_w (w_orP (Qa := fun b => b = decide (((freeV n cube).map PyData.int).length = (0 : Int))) (Qb := fun _ => True) (t_eq (e_lenL (e_call h3 (n, cs, cube) (a_d (e_v 1 rfl rfl) (a_d (e_v 2 rfl rfl) a_nil)) (by show n ≤ 1000; omega) (by omega))) e_int) (fun _ => w_1o (q_gtP (e_draw (A := A) 0 rfl rfl h1 e_int (by decide) (by omega)) e_int (fun _ _ => trivial))) (fun h => ?_) (fun x h1 _ => ?_)))) (fun h => ?_) (fun x h1 h2 => ?_))) (fun hq => ?_) (fun hq => ?_))
  · intro hx; cases hx
  · intro _ hx
    rw [hx] at h1
    exact absurd h1 (by decide)
  · exact ⟨fun hx => (by cases hx), fun _ => .inl (by have := of_decide_eq_false h.symm; omega)⟩
  · exact ⟨fun _ => of_decide_eq_true h1.symm, fun hx => .inr (h2 hx)⟩
  · -- a leaf
    have hle := hq.1 rfl
    have hex : ∃ m, ∃ h : m < cs.length, fails cube cs[m] = true := by
      unfold leafI at hle
      cases q : cs.findIdx? (fails cube) with
      | none => rw [q] at hle; exact absurd hle (by decide)
      | some m =>
        obtain ⟨h1, h2, _⟩ := List.findIdx?_eq_some_iff_getElem.mp q
        exact ⟨m, h1, h2⟩
    refine s_lc 4 rfl (l_lc (enc := fun k : Nat => .int (k : Nat)) (xs := List.range cs.length) (f := fun k => fails cube (cs.getD k [])) (g := fun k => .int (k : Nat)) 5 (i_r0 (n := cs.length) (DE.to (e_lenT (e_ixT (e_v 1 rfl rfl) e_int rfl)) (by rw [List.length_map])) (by have := hf.2.1; omega)) rfl
      (fun s H C cl fp y fx' hy => ts_1 (t_val (e_cb h4 (cube, cs.getD y []) (a_d (e_v 2 rfl rfl) (a_d (e_ixT (e_ixT (e_v 1 rfl rfl) e_int rfl) (e_v 5 rfl rfl) (atC (by simpa using hy))) a_nil)) trivial (by omega)))) (fun s H C cl fp y fx' hy hf => e_v 5 rfl rfl)) ?_
    generalize hfit : (List.range cs.length).filter (fun k => fails cube (cs.getD k [])) = fit
    have hmem : ∀ m, m ∈ fit → ∃ c, cs[m]? = some c ∧ fails cube c = true := fun m hm => by
      rw [← hfit] at hm
      obtain ⟨a, b⟩ := List.mem_filter.mp hm
      have hl := List.mem_range.mp a
      exact ⟨cs[m], List.getElem?_eq_getElem hl, by rw [← getD_get (d := []) hl]; exact b⟩
    have hne : 0 < fit.length := by
      obtain ⟨m, hm1, hm2⟩ := hex
      have : m ∈ fit := by rw [← hfit]; exact List.mem_filter.mpr ⟨List.mem_range.mpr hm1, by rw [getD_get hm1]; exact hm2⟩
      exact List.length_pos_of_mem this
    have hfl : fit.length ≤ cs.length := by rw [← hfit]; exact Nat.le_trans (List.length_filter_le _ _) (by rw [List.length_range]; exact Nat.le_refl _)
    refine s_retP (e_tupP (Pd := fun ds => ∃ m ∈ fit, ds = [.str "leaf", .int (m : Nat)]) (a_dat (e_str) (a_dat (e_ixLP (Pi := fun j => 0 ≤ j ∧ j < (fit.length : Int)) (P := fun d => ∃ m ∈ fit, d = .int (m : Nat)) (e_v 4 rfl rfl) (e_draw (A := A) (many := (fit.length : Int)) 0 rfl rfl h1 (DE.to (e_lenL (e_v 4 rfl rfl)) (by rw [List.length_map])) (by have := hf.2.1; omega) (by omega)) (fun j hj => ?_)) a_nil)) ?_) ?_
    · obtain ⟨x, hx⟩ := atI_lt (xs := fit) hj.1 hj.2
      exact ⟨PyData.int (x : Nat), by rw [atI_map, hx]; rfl, x, atI_mem hx, rfl⟩
    · rintro as ⟨d1, r, rfl, rfl, d2, r2, rfl, ⟨m, hm, rfl⟩, rfl⟩
      exact ⟨[PyData.str "leaf", PyData.int (m : Nat)], rfl, by show 2 ≤ sizeLine; decide, m, hm, rfl⟩
    · rintro _ ⟨ds, rfl, m, hm, rfl⟩
      refine ⟨⟨.leaf m, rfl, hmem m hm, ?_⟩, keep _ List.mem_cons_self⟩
      have : 1 ≤ 2 ^ d := Nat.one_le_two_pow
      show 2 + 1 ≤ _
      omega
  · -- a question
    have hfr : freeV n cube ≠ [] := by
      rcases hq.2 rfl with h | h
      · intro e
        have := full_leaf hm hc e
        omega
      · exact h
    have hfl : 0 < (freeV n cube).length := List.length_pos_iff.mpr hfr
    have hfl2 : (freeV n cube).length ≤ n := by unfold freeV; rw [List.length_map]; exact Nat.le_trans (List.length_filter_le _ _) (by rw [List.length_range]; exact Nat.le_refl _)
    refine s_asg 6 rfl (e_call h3 (n, cs, cube) (a_d (e_v 1 rfl rfl) (a_d (e_v 2 rfl rfl) a_nil)) (by show n ≤ 1000; omega) (by omega)) (s_asgP (Pa := fun d => ∃ v : Nat, d = .int (v : Nat) ∧ 1 ≤ v ∧ v ≤ n ∧ (v : Int) ∉ cube ∧ -(v : Int) ∉ cube) 7 rfl (e_ixLP (Pi := fun j => 0 ≤ j ∧ j < ((freeV n cube).length : Int)) (e_v 6 rfl rfl) (e_draw (A := A) (many := ((freeV n cube).length : Int)) 0 rfl rfl h1 (DE.to (e_lenL (e_v 6 rfl rfl)) (by rw [List.length_map])) (by omega) (by omega)) (fun j hj => ?_)) ?_)
    · obtain ⟨x, hx⟩ := atI_lt (xs := freeV n cube) hj.1 hj.2
      obtain ⟨a, b, c, e⟩ := free_mem.mp (atI_mem hx)
      refine ⟨PyData.int x, by rw [atI_map, hx]; rfl, x.toNat, ?_⟩
      rw [Int.toNat_of_nonneg (by omega)]
      exact ⟨rfl, by omega, by omega, c, e⟩
    · rintro _ ⟨v, rfl, v1, v2, v3, v4⟩
      have hlt : cube.length < n := by
        have ha : Cl n (withC cube v) := withC_cl hc (by omega) v3 v4
        have := ha.len1
        rw [withC_len] at this
        omega
      obtain ⟨d', rfl⟩ : ∃ d', d = d' + 1 := ⟨d - 1, by omega⟩
      obtain ⟨hk', h6⟩ := hr d' rfl
      have hcl : cube.length ≤ 1000 := by omega
      have hcm : Cl n (withC cube (-(v : Int))) := withC_cl hc (by omega) v4 (by rw [Int.neg_neg]; exact v3)
      have hcp : Cl n (withC cube (v : Int)) := withC_cl hc (by omega) v3 v4
      refine s_retP (e_tupP (Pd := fun ds => ∃ l r, ds = [.str "ask", .int (v : Nat), tD l, tD r] ∧ (TrOk n cs (withC cube (-(v : Int))) l ∧ trSz l + 1 ≤ 3 * 2 ^ d') ∧ (TrOk n cs (withC cube v) r ∧ trSz r + 1 ≤ 3 * 2 ^ d')) (a_dat e_str (a_dat (e_v 7 rfl rfl)
        (a_dat (e_own1 (A := A) 0 rfl rfl h6 ⟨A, n, cs, withC cube (-(v : Int))⟩ [fD n cs, cD (withC cube (-(v : Int)))] rfl (a_d (e_v 1 rfl rfl) (a_d (e_call h5 (cube, -(v : Int)) (a_d (e_v 2 rfl rfl) (a_d (e_neg (e_v 7 rfl rfl)) a_nil)) hcl (by omega)) a_nil)) ⟨hf, hm, hcm, by show n ≤ (withC cube (-(v : Int))).length + d'; rw [withC_len]; omega⟩ hk')
        (a_dat (e_own1 (A := A) 0 rfl rfl h6 ⟨A, n, cs, withC cube v⟩ [fD n cs, cD (withC cube v)] rfl (a_d (e_v 1 rfl rfl) (a_d (e_call h5 (cube, (v : Int)) (a_d (e_v 2 rfl rfl) (a_d (e_v 7 rfl rfl) a_nil)) hcl (by omega)) a_nil)) ⟨hf, hm, hcp, by show n ≤ (withC cube v).length + d'; rw [withC_len]; omega⟩ hk') a_nil)))) ?_) ?_
      · rintro as ⟨d1, r1, rfl, rfl, d2, r2, rfl, rfl, d3, r3, rfl, ⟨l, rfl, hl⟩, d4, r4, rfl, ⟨r, rfl, hrr⟩, rfl⟩
        exact ⟨[PyData.str "ask", PyData.int (v : Nat), tD l, tD r], rfl, by show 4 ≤ sizeLine; decide, l, r, rfl, hl, hrr⟩
      · rintro _ ⟨ds, rfl, l, r, rfl, hl, hrr⟩
        refine ⟨⟨.ask v l r, rfl, ⟨v1, v2, v3, v4, hl.1, hrr.1⟩, ?_⟩, keep _ List.mem_cons_self⟩
        have e1 := hl.2
        have e2 := hrr.2
        show 1 + trSz l + trSz r + 1 ≤ _
        rw [Nat.pow_succ]
        omega
end
end Rb
/-! defs that change an own list; the writing of a tree -/
namespace Rb
open PySem PySem.Spec L2
def spG {T : Type} (ar : T → List Sl) (pre : T → Prop) (Post : T → PyData → List Sl → Prop) : Sp := fun vs H Q _ => ∃ t F0 H0 F, pre t ∧ Gw F0 H0 F H ∧ ArOk H0 F H vs (ar t) ∧ Apart (ar t) ∧
  ∀ v d as' F' H', Post t d as' → Gw F0 H0 F' H' → Same F F' → (∀ s ∈ as', MutOk H0 F' H' s) → Is F' v d → Q v H'
def EndG (Post : PyData → List Sl → Prop) : Out → Prop
  | .rt d ρ => ∃ as', Post d as' ∧ ∀ s ∈ as', (∃ d, s = .dat d) ∨ s ∈ ρ
  | _ => False
theorem has_ofG {P : Program} {w : World} {K : PySem.W.Frag} {mg : Str → Option Value} {base : Heap} {x : Str} {st : Stmt} {N ps : List Str} {k : Nat} {T : Type} {ar : T → List Sl} {pre : T → Prop} {Post : T → PyData → List Sl → Prop} (hf : At K mg x st) (S : FnScope N ps (defScope st)) (hbn : ∀ x ∈ BN, mg x = none)
    (hb : ∀ (kV doc pm : Value) (an : Option Addr) (cdv ct : Value) (us : List Value), us.length = ps.length → bindArgs (PySem.W.fnOf x x (defArgs st) (defBody st) (defScope st) .none kV doc pm an cdv ct) ⟨us, []⟩ = pure (ps.zip us)) (hl : ∀ t, (ar t).length = ps.length)
    (body : ∀ X : Cx, Ctx P w K mg base X → Fx X (defScope st) N k → Fl X → ∀ t, pre t → DS X (ar t ++ List.replicate (N.length - (ar t).length) .any) (defBody st) (EndG (Post t))) : Has P w K mg base x (k + 1) (spG ar pre Post) := by
  obtain ⟨f, fd, hm, F⟩ := hf.ex
  refine ⟨f, fd, ps, hm, F.kp, F.binds hb, F.ok S (fun vs H Q E h => ?_) (fun cdv A outer s H vs Q E hr h => ?_)⟩
  · obtain ⟨t, F0, H0, F', hp, g, ha, _⟩ := h
    rw [← hl t]
    exact Paired.length ha
  · obtain ⟨t, F0, H0, F', hp, g, ha, hap, q⟩ := h
    have fx : Fx (cxOf CX0 P w K mg base N x (defScope st) f cdv A outer s H E).nox (defScope st) N k := ⟨rfl, S.nd, rfl, S.kind, rfl, hr, hbn, rfl⟩
    have fl : Fl (cxOf CX0 P w K mg base N x (defScope st) f cdv A outer s H E).nox := ⟨fun _ => rfl⟩
    refine ⟨_, body _ ⟨rfl, rfl, rfl, rfl, rfl⟩ fx fl t hp, F0, H0, F', g, rep_start ha hap, fun o ho => ?_⟩
    cases o with
    | nx ρ' => exact ho.elim
    | ro P' ρ' => exact ho.elim
    | rt d ρ' =>
      obtain ⟨as', hP, hm⟩ := ho
      intro v σ' F2 H2 g2 s2 r2 i2
      refine q v d as' F2 H2 hP g2 s2 (fun s hs => ?_) i2
      rcases hm s hs with ⟨d, rfl⟩ | hm
      · trivial
      · obtain ⟨n, hn, en⟩ := List.getElem_of_mem hm
        exact SlOk.rep r2 (by rw [List.getElem?_eq_getElem hn, en])
theorem Rep.strong {H0 H1 F H : Hp} {σ : St} {ρ : List Sl} {i : Nat} {B : Addr} {P P' : List PyData → Prop} (r : Rep H0 ρ σ F H) (hρ : ρ[i]? = some (.own B P)) (m : MutOk H1 F H (.own B P')) : Rep H0 (ρ.set i (.own B P')) σ F H := by
  obtain ⟨w1, z0, z1, _⟩ := own_adr r hρ
  obtain ⟨_, _, vs, ds, m1, m2, m3, m4, m5⟩ := m
  have e : H = upd H B (.lst vs) := by
    funext b
    by_cases hb : b = B
    · rw [hb, upd_same, m1]
    · rw [upd_ne hb]
  have r2 := own_put r hρ m2 m3 m4
  rw [← e] at r2
  refine ⟨by rw [List.length_set]; exact r.len, fun j s es => ?_, fun j1 j2 s t a e1 e2 a1 a2 => ?_⟩
  · by_cases hj : j = i
    · subst hj
      have hl := (List.getElem?_eq_some_iff.mp hρ).1
      rw [List.getElem?_set_self hl] at es
      cases es
      exact ⟨_, w1, rfl, z0, z1, vs, ds, m1, m2, m3, m4, m5⟩
    · rw [List.getElem?_set_ne (Ne.symm hj)] at es
      exact r.ok j s es
  · have back : ∀ (m : Nat) (t : Sl), (ρ.set i (.own B P'))[m]? = some t → t.adr = some a → ∃ t', ρ[m]? = some t' ∧ t'.adr = some a := fun m t em at_ => by
      rw [List.getElem?_set] at em
      split at em
      · rename_i hm
        subst hm
        split at em
        · cases em
          exact ⟨_, hρ, at_⟩
        · cases em
      · exact ⟨t, em, at_⟩
    obtain ⟨t1', b1, c1⟩ := back j1 s e1 a1
    obtain ⟨t2', b2, c2⟩ := back j2 t e2 a2
    exact r.ap j1 j2 t1' t2' a b1 b2 c1 c2
section
variable {X : Cx} {ρ : List Sl} {sc : Scope} {N : List Str} {k : Nat} {a : Expr} {es rest : List Expr} {sts : List Stmt} {pos p p1 p2 : Pos} {x : Str} {Pt : Out → Prop} {A B : Addr}
theorem a_oP [fx : Fx X sc N k] (n : Nat) {s : Sl} {Ps : List Sl → Prop} (hi : N[n]? = some x) (hρ : ρ[n]? = some s) (hA : s.adr = some A) (hr : DA X ρ es Ps) (hv : visB sc x = true := by decide +kernel) (hs : starEach (.Name x pos :: es) X.env = (false, eval (.Name x pos) X.env) :: starEach es X.env := by rfl) : DA X ρ (.Name x pos :: es) (fun y => ∃ r, y = s :: r ∧ Ps r) := by
  obtain ⟨h1, h2, h3⟩ := vis_of (X := X) fx.hsc hv
  refine PA.weak (pa_cons (pe_var (i := n) (by rw [fx.hN]; exact hi) h1 h2 h3) hr hs) fun σ H Q ⟨F0, H0, F, g, r, q⟩ => ?_
  obtain ⟨y, q1, q2⟩ := r.ok n s hρ
  have e : y = some (.ref A) := by
    cases s <;> cases hA
    · exact q2.1
    · exact q2.1
  subst e
  refine ⟨_, q1, F0, H0, F, g, r, fun vs bs F1 H1 p1 g1 s1 r1 i1 => ?_⟩
  refine q _ _ F1 H1 ⟨bs, rfl, p1⟩ g1 s1 r1 (.cons ?_ i1)
  obtain ⟨z, z1, z2⟩ := r1.ok n s hρ
  rw [q1] at z1
  cases z1
  exact z2
theorem apart_2 {P P' : List PyData → Prop} {ds : List PyData} (h : A ≠ B) : Apart (.own A P :: (ds.map .dat ++ [.own B P'])) := by
  have key : ∀ (i : Nat) (s : Sl) (a : Addr), (Sl.own A P :: (ds.map Sl.dat ++ [.own B P']))[i]? = some s → s.adr = some a → (i = 0 ∧ a = A) ∨ (i = ds.length + 1 ∧ a = B) := fun i s a e h => by
    cases i with
    | zero =>
      have e' : Sl.own A P = s := Option.some.inj e
      subst e'
      exact .inl ⟨rfl, (Option.some.inj h).symm⟩
    | succ i =>
      rw [List.getElem?_cons_succ] at e
      by_cases hi : i < ds.length
      · rw [List.getElem?_append_left (by rw [List.length_map]; exact hi), List.getElem?_map] at e
        cases q : ds[i]? with
        | none => rw [q] at e; cases e
        | some d => rw [q] at e; cases e; cases h
      · rw [List.getElem?_append_right (by rw [List.length_map]; omega), List.length_map] at e
        have hi2 : i - ds.length = 0 := by
          have := (List.getElem?_eq_some_iff.mp e).1
          rw [List.length_singleton] at this
          omega
        rw [hi2] at e
        have e' : Sl.own B P' = s := Option.some.inj e
        subst e'
        exact .inr ⟨by omega, (Option.some.inj h).symm⟩
  intro i j s t a e1 e2 a1 a2
  rcases key i s a e1 a1 with ⟨i1, i2⟩ | ⟨i1, i2⟩ <;> rcases key j t a e2 a2 with ⟨j1, j2⟩ | ⟨j1, j2⟩
  · rw [i1, j1]
  · exact absurd (i2.symm.trans j2) h
  · exact absurd (j2.symm.trans i2) h
  · rw [i1, j1]
/-- x = f(own A, .., own B), the own list at B changed -/
theorem s_asgG [fx : Fx X sc N k] [fl : Fl X] {T : Type} {ar : T → List Sl} {pre : T → Prop} {Post : T → PyData → List Sl → Prop} {PA PB : List PyData → Prop} {Ps : List Sl → Prop} {f : Str} {j : Nat} (n iA iB : Nat) (hN : N[n]? = some x) (hA : ρ[iA]? = some (.own A PA)) (hB : ρ[iB]? = some (.own B PB)) (hAB : iA ≠ iB) (h : Hs X f j (spG ar pre Post)) (ha : DA X ρ (a :: rest) Ps)
    (hargs : ∀ as, Ps as → ∃ (t : T) (ds : List PyData), as = .own A PA :: (ds.map .dat ++ [.own B PB]) ∧ ar t = as ∧ pre t ∧ ∀ d as', Post t d as' → ∃ PB', .own A PA ∈ as' ∧ .own B PB' ∈ as' ∧ DS X ((ρ.set iB (.own B PB')).set n (.dat d)) sts Pt) (hj : j ≤ k)
    (hlo : locB sc x = true := by decide +kernel) (hg : glB sc f = true := by decide +kernel) (he : starEach (a :: rest) X.env = (false, eval a X.env) :: starEach rest X.env := by rfl) (hpl : (backTo pos (starEach rest X.env)).any (·.1) = false := by rfl)
    (hs : swapsWith (.Call (.Name f p) (a :: rest) [] pos) (some (.Name x p1)) p2.line X.env = pure false := by rfl) : DS X ρ (.Assign [.Name x p1] (.Call (.Name f p) (a :: rest) [] pos) p2 :: sts) Pt := by
  obtain ⟨fa, fd, ps, h1, h2, h3, h4⟩ := h.ex
  obtain ⟨g1, g2⟩ := gl_of fx.hsc hg
  refine PSs.weak (pss_cons (ps_set (i := n) (by rw [fx.hN]; exact fx.nd) (by rw [fx.hN]; exact hN) (loc_of fx.hsc hlo) (pe_call h4 (fx.room.mono hj) g1 h1 h2 h3 (.nil : Vals [] []) pass0 ha g2 he hpl) hs (.inl (fl.fn _))) (ex_s (q := fun y : PyData × (List PyData → Prop) => DS X ((ρ.set iB (.own B y.2)).set n (.dat y.1)) sts Pt) (t := fun y => tS ((ρ.set iB (.own B y.2)).set n (.dat y.1)) Pt) fun y hy => hy)) fun D σ H ⟨F0, H0, F, g, r, q⟩ => ?_
  refine ⟨F0, H0, F, g, r, fun vs as F1 H1 p1 g1 s1 r1 i1 => ?_⟩
  obtain ⟨t, ds, rfl, hart, hp, hpost⟩ := hargs as p1
  rw [List.append_nil]
  have hABa : A ≠ B := fun e => hAB (r1.ap iA iB _ _ A hA hB rfl (by rw [e]; rfl))
  refine ⟨t, F1, Rb.del H1 (.own A PA :: (ds.map .dat ++ [.own B PB])), F1, hp, Gw.del g1.fh (fun s hs a e => (mut_adr (arOk_mut i1 s hs) e).2.1), by rw [hart]; exact arOk_del (fun s hs => hs) i1, by rw [hart]; exact apart_2 hABa, fun v d as' F' H' hP gg ss hm is => ?_⟩
  obtain ⟨PB', hmA, hmB, hds⟩ := hpost d as' hP
  -- the weak view
  let W : List PyData → Prop := fun _ => True
  have hBl := (List.getElem?_eq_some_iff.mp hB).1
  have ownB := own_adr r1 hB
  have rw1 : Rep H0 (ρ.set iB (.own B W)) σ F1 H1 := r1.strong (H1 := H0) hB (by
    obtain ⟨_, z0, z1, vs', ds', z2, z3, z4, z5, _⟩ := ownB
    exact ⟨z0, z1, vs', ds', z2, z3, z4, z5, trivial⟩)
  have hB' : (ρ.set iB (.own B W))[iB]? = some (.own B W) := List.getElem?_set_self hBl
  have hA' : (ρ.set iB (.own B W))[iA]? = some (.own A PA) := by rw [List.getElem?_set_ne (Ne.symm hAB)]; exact hA
  have edel : Rb.del H1 (.own A PA :: (ds.map .dat ++ [.own B PB])) = Rb.del H1 (.own A PA :: (ds.map .dat ++ [.own B W])) := by
    funext b
    have hiff : (∃ s ∈ (Sl.own A PA :: (ds.map .dat ++ [.own B PB])), s.adr = some b) ↔ (∃ s ∈ (Sl.own A PA :: (ds.map .dat ++ [.own B W])), s.adr = some b) := by
      simp [Sl.adr]
    by_cases hb : ∃ s ∈ (Sl.own A PA :: (ds.map .dat ++ [.own B PB])), s.adr = some b
    · obtain ⟨s, h1, h2⟩ := hb
      obtain ⟨s', h1', h2'⟩ := hiff.mp ⟨s, h1, h2⟩
      rw [del_in h1 h2, del_in h1' h2']
    · rw [del_out hb, del_out fun q => hb (hiff.mpr q)]
  rw [edel] at gg hm
  have i1w : ArOk H0 F1 H1 vs (.own A PA :: (ds.map .dat ++ [.own B W])) := by
    have conv : ∀ {vs : List V} {as : List Sl}, ArOk H0 F1 H1 vs (as ++ [.own B PB]) → ArOk H0 F1 H1 vs (as ++ [.own B W]) := by
      intro vs as
      induction as generalizing vs with
      | nil =>
        intro h
        cases h with
        | cons h1 h2 =>
          cases h2
          obtain ⟨e1, z0, z1, vs', ds', z2, z3, z4, z5, _⟩ := h1
          exact .cons ⟨e1, z0, z1, vs', ds', z2, z3, z4, z5, trivial⟩ .nil
      | cons s as ih =>
        intro h
        cases h with
        | cons h1 h2 => exact .cons h1 (ih h2)
    exact conv (as := .own A PA :: ds.map .dat) i1
  obtain ⟨gN, rN⟩ := after_call (as' := []) g1 rw1 i1w gg (fun s hs => by
    rcases List.mem_cons.mp hs with rfl | hs
    · exact hm _ hmA
    · rcases List.mem_append.mp hs with hs | hs
      · obtain ⟨y, _, rfl⟩ := List.mem_map.mp hs; trivial
      · rw [List.mem_singleton.mp hs]
        obtain ⟨z0, z1, vs', ds', z2, z3, z4, z5, _⟩ := hm _ hmB
        exact ⟨z0, z1, vs', ds', z2, z3, z4, z5, trivial⟩) (fun s hs e => by
    rcases List.mem_cons.mp hs with rfl | hs
    · exact List.mem_of_getElem? hA'
    · rcases List.mem_append.mp hs with hs | hs
      · obtain ⟨y, _, rfl⟩ := List.mem_map.mp hs; exact absurd rfl e
      · rw [List.mem_singleton.mp hs]; exact List.mem_of_getElem? hB')
  have rS := rN.strong hB' (hm _ hmB)
  rw [List.set_set] at rS
  exact ⟨(d, PB'), hds, F0, H0, F', gN, rS.setD is, fun o po => (q o po).mono (s1.trans gg.ff)⟩
end
end Rb
/-! the writing of a tree as steps -/
namespace Rb
open PySem PySem.Spec L2
theorem Fits.mono {n : Nat} {cs cls more : List (List Int)} {s : Stp} {c : List Int} (h : Fits n cs cls s c) : Fits n cs (cls ++ more) s c := by
  have get : ∀ {a : Nat} {p : List Int}, cls[a]? = some p → (cls ++ more)[a]? = some p := fun {a p} e => by rw [List.getElem?_append_left (List.getElem?_eq_some_iff.mp e).1]; exact e
  cases s with
  | ax i => exact h
  | wk a c' => obtain ⟨p, h1, h2⟩ := h; exact ⟨p, get h1, h2⟩
  | res a b v => obtain ⟨p, q, h1, h2, h3⟩ := h; exact ⟨p, q, get h1, get h2, h3⟩
theorem Der.snoc {n : Nat} {cs : List (List Int)} {ss : List Stp} {cls : List (List Int)} {s : Stp} {c : List Int} (h : Der n cs ss cls) (hf : Fits n cs cls s c) : Der n cs (ss ++ [s]) (cls ++ [c]) := by
  refine ⟨by rw [List.length_append, List.length_append, h.1]; rfl, fun i t ht => ?_⟩
  by_cases hi : i < ss.length
  · rw [List.getElem?_append_left hi] at ht
    obtain ⟨c', h1, h2⟩ := h.2 i t ht
    have hl := (List.getElem?_eq_some_iff.mp h1).1
    refine ⟨c', by rw [List.getElem?_append_left hl]; exact h1, ?_⟩
    rw [List.take_append_of_le_length (by omega)]
    exact h2
  · have e : i = ss.length := by
      have := (List.getElem?_eq_some_iff.mp ht).1
      rw [List.length_append, List.length_singleton] at this
      omega
    subst e
    rw [List.getElem?_append_right (Nat.le_refl _), Nat.sub_self] at ht
    have e2 : s = t := Option.some.inj ht
    subst e2
    refine ⟨c, by rw [← h.1, List.getElem?_append_right (Nat.le_refl _), Nat.sub_self]; rfl, ?_⟩
    rw [← h.1, List.take_append_of_le_length (Nat.le_refl _), List.take_length]
    exact hf
theorem Comp.all {Pt : Nat → PyData → Bool → Prop} {ds es : List PyData} (h : Comp Pt (fun _ d y => y = d) ds es) {d : PyData} (hd : d ∈ ds) (hn : ∀ n, ¬ Pt n d false) : d ∈ es := by
  induction h with
  | nil => cases hd
  | out _ q ih =>
    rcases List.mem_append.mp hd with hd | hd
    · exact ih hd
    · rw [List.mem_singleton] at hd; subst hd; exact absurd q (hn _)
  | keep _ _ q ih =>
    rcases List.mem_append.mp hd with hd | hd
    · exact List.mem_append_left _ (ih hd)
    · rw [List.mem_singleton] at hd; subst hd; rw [q]; exact List.mem_append_right _ (List.mem_singleton.mpr rfl)
theorem Comp.subl {Pt : Nat → PyData → Bool → Prop} {ds es : List PyData} (h : Comp Pt (fun _ d y => y = d) ds es) : es.Sublist ds := by
  have := h.sub (g := fun d => d)
  rwa [List.map_id'] at this
/-- resolvents -/
theorem made_some {L : List Int} (h : ∀ l ∈ L, -l ∉ L) : made L = some (ssI L) := by
  unfold made
  rw [if_pos]
  rw [List.isEmpty_iff, List.filter_eq_nil_iff]
  intro l hl
  simpa using h l hl
theorem resolv_some {p q : List Int} {v : Int} (h1 : v ∈ p) (h2 : -v ∈ q) (h : ∀ l, ((l ∈ p ∧ l ≠ v) ∨ (l ∈ q ∧ l ≠ -v)) → ¬ ((-l ∈ p ∧ -l ≠ v) ∨ (-l ∈ q ∧ -l ≠ -v))) :
    resolv p q v = some (ssI ((p.filter fun a => !decide (a = v)) ++ (q.filter fun b => !decide (b = -v)))) := by
  unfold resolv
  rw [if_pos (by simp [h1, h2])]
  refine made_some fun l hl hn => h l ?_ ?_
  · simpa using hl
  · simpa using hn
theorem res_mem {p q : List Int} {v l : Int} : l ∈ ssI ((p.filter fun a => !decide (a = v)) ++ (q.filter fun b => !decide (b = -v))) ↔ (l ∈ p ∧ l ≠ v) ∨ (l ∈ q ∧ l ≠ -v) := by
  rw [ssI_mem]
  simp
theorem ssI_lt {ns : List Int} : (ssI ns).Pairwise (· < ·) := sortI_lt (eraseDups_nodup ns)
structure WrT where
  A : Addr
  B : Addr
  n : Nat
  cs : List (List Int)
  tr : Tr
  cube : List Int
  ss : List Stp
  cls : List (List Int)
def WrPre (d : Nat) (t : WrT) : Prop := Fm t.n t.cs ∧ Der t.n t.cs t.ss t.cls ∧ TrOk t.n t.cs t.cube t.tr ∧ Cl t.n t.cube ∧ t.n ≤ t.cube.length + d ∧ t.ss.length + trSz t.tr ≤ 200
/-- the clause at idx is falsified by the cube -/
def WrPost (t : WrT) (y : PyData) (as' : List Sl) : Prop := ∃ (more : List Stp) (mc : List (List Int)) (idx : Nat) (c : List Int), y = .list [.int (idx : Nat), cD c] ∧ as' = [.own t.A PoolOk, .own t.B (fun y => y = (t.ss ++ more).map sD)] ∧
  Der t.n t.cs (t.ss ++ more) (t.cls ++ mc) ∧ (t.cls ++ mc)[idx]? = some c ∧ Cl t.n c ∧ (∀ l ∈ c, -l ∈ t.cube) ∧ more.length ≤ trSz t.tr
abbrev arW (t : WrT) : List Sl := [.own t.A PoolOk, .dat (fD t.n t.cs), .dat (tD t.tr), .dat (cD t.cube), .own t.B (fun y => y = t.ss.map sD)]
abbrev pLwrite (d : Nat) : Sp := spG arW (WrPre d) WrPost
section
variable {X : Cx} {k : Nat}
theorem Cl.small {n : Nat} {c : List Int} (h : Cl n c) (hn : n ≤ 4) : c.length ≤ 4 := Nat.le_trans h.len1 hn
theorem d_Lwrite (d : Nat) (t : WrT) (hp : WrPre d t) [Fx X (defScope sL_write) nL_write k] [Fl X] (hk : 2 ≤ k) (h1 : Hs X "_law_draw" 2 pLdraw) (h2 : Hs X "_law_negated" 1 pNeg) (h3 : Hs X "_law_with" 1 pWith) (hr : ∀ d', d = d' + 1 → 3 + d' ≤ k ∧ Hs X "_law_write" (3 + d') (pLwrite d')) :
    DS X [.own t.A PoolOk, .dat (fD t.n t.cs), .dat (tD t.tr), .dat (cD t.cube), .own t.B (fun y => y = t.ss.map sD), .any, .any, .any, .any, .any, .any, .any] (defBody sL_write) (EndG (WrPost t)) := by
  obtain ⟨A, B, n, cs, tr, cube, ss, cls⟩ := t
  obtain ⟨hf, hd, ht, hc, hdn, hz⟩ := hp
  simp only at hf hd ht hc hdn hz ⊢
  have n4 : n ≤ 4 := hf.1
  cases tr with
  | leaf m =>
    obtain ⟨c, hcm, hfa⟩ := ht
    have hml := (List.getElem?_eq_some_iff.mp hcm).1
    have hcl : Cl n c := hf.2.2 c (List.mem_of_getElem? hcm)
    have hneg := fails_iff.mp hfa
    have d1 : Der n cs (ss ++ [.ax m]) (cls ++ [c]) := hd.snoc hcm
    have hz1 : ss.length + 2 ≤ 200 := hz
    refine s_ifTR (t_T (t_eqS (e_ixT (e_v 2 rfl rfl) e_int rfl) e_str) (by decide +kernel)) (s_app 4 rfl rfl (d := sD (.ax m)) (e_tup (ds := [.str "axiom", .int m]) (a_d e_str (a_d (e_ixT (e_v 2 rfl rfl) e_int rfl) a_nil))) (by rw [List.length_map, sizeLine_eq]; omega)
      (s_asg 5 rfl (e_ixT (e_ixT (e_v 1 rfl rfl) e_int rfl) (e_ixT (e_v 2 rfl rfl) e_int rfl) (at_get hcm))
        (s_if (Pm := fun o => match o with | .nx ρ' => ∃ (more : List Stp) (mc : List (List Int)) (c' : List Int) (s6 s7 : Sl), ρ' = [.own A PoolOk, .dat (fD n cs), .dat (tD (.leaf m)), .dat (cD cube), .own B (fun y => y = (ss ++ more).map sD), .dat (cD c'), s6, s7, .any, .any, .any, .any] ∧ Der n cs (ss ++ more) (cls ++ mc) ∧ (cls ++ mc)[(ss ++ more).length - 1]? = some c' ∧ Cl n c' ∧ (∀ l ∈ c', -l ∈ cube) ∧ 1 ≤ more.length ∧ more.length ≤ 2 | _ => False) (Qc := fun _ => True)
          (q_eqP (e_draw (A := A) 0 rfl rfl h1 e_int (by decide) hk) e_int (fun _ _ => trivial)) (fun _ => ?_) (fun _ => s_nil ⟨[.ax m], [c], c, .any, .any, ?_, d1, ?_, hcl, hneg, by simp, by simp⟩) ?_ (fun _ _ h => h.elim) (fun _ _ h => h.elim))))
    · -- a weakening
      have hcn : c.length ≤ 1000 := by have := hcl.small n4; omega
      refine s_lcP (Pa := fun d => ∃ ms : List Int, d = .list (ms.map .int) ∧ ms.Sublist (negC cube) ∧ ∀ l ∈ c, l ∈ ms) 6 rfl (LcOk.imp (l_lcP (Pl := fun ds => ds = (negC cube).map .int) (Pt := fun _ d b => ∀ l, d = .int l → l ∈ c → b = true) (Pe := fun _ d y => y = d) 7 (i_T (e_call h2 cube (a_d (e_v 3 rfl rfl) a_nil) trivial (by omega))) rfl
        (fun s H C cl fp j d ds fx' e hd => ?_) (fun s H C cl fp j d ds fx' _ _ _ => e_v 7 rfl rfl)) ?_) ?_
      · subst e
        rw [List.getElem?_map] at hd
        cases hq : (negC cube)[j]? with
        | none => rw [hq] at hd; cases hd
        | some l =>
          rw [hq] at hd
          cases hd
          refine ts_1 (t_w (w_orP (Qa := fun b => b = decide (l ∈ c)) (Qb := fun _ => True) (t_inT (e_v 7 rfl rfl) (e_v 5 rfl rfl)) (fun _ => w_1o (q_eqP (e_draw (A := A) 0 rfl rfl h1 e_int (by decide) hk) e_int (fun _ _ => trivial))) (fun _ _ _ _ => rfl) (fun x hx _ l' e hl => ?_)))
          cases e
          rw [decide_eq_true hl] at hx
          cases hx
      · rintro _ ⟨ds, es, rfl, rfl, hcmp⟩
        obtain ⟨ms, rfl, hsub⟩ := ints_sub hcmp.subl
        refine ⟨ms, rfl, hsub, fun l hl => ?_⟩
        have hin : PyData.int l ∈ (negC cube).map PyData.int := List.mem_map_of_mem (negC_mem.mpr (hneg l hl))
        have := hcmp.all hin fun n h => by have := h l rfl hl; cases this
        obtain ⟨x, hx, e⟩ := List.mem_map.mp this
        cases e
        exact hx
      · rintro _ ⟨ms, rfl, hsub, hall⟩
        have hls : Ls n ms := by
          have hcn : Cl n (negC cube) := hc.ls.neg.sort
          exact hcn.ls.sub hsub
        have hcl' := hls.sort
        have hneg' : ∀ l ∈ sortI ms, -l ∈ cube := fun l hl => negC_mem.mp (hsub.subset (sortI_mem.mp hl))
        have hidx : (cls ++ [c])[(ss ++ [Stp.ax m]).length - 1]? = some c := by rw [List.length_append, List.length_singleton, Nat.add_sub_cancel, ← hd.1, List.getElem?_append_right (Nat.le_refl _), Nat.sub_self]; rfl
        have d2 : Der n cs (ss ++ [.ax m] ++ [.wk ss.length (sortI ms)]) (cls ++ [c] ++ [sortI ms]) := d1.snoc ⟨c, by rw [← hd.1, List.getElem?_append_right (Nat.le_refl _), Nat.sub_self]; rfl, fun l hl => sortI_mem.mpr (hall l hl), rfl, hcl'⟩
        refine s_asg 5 rfl (e_tupL (e_sortI (e_v 6 rfl rfl))) (s_app 4 rfl rfl (d := sD (.wk ss.length (sortI ms))) (e_tup (ds := [.str "weaken", .int (ss.length : Nat), cD (sortI ms)]) (a_d e_str (a_d (DE.to (e_sub (e_lenO 4 rfl rfl) e_int) ?_) (a_d (e_v 5 rfl rfl) a_nil)))) ?_ (s_nil ⟨[.ax m, .wk ss.length (sortI ms)], [c, sortI ms], sortI ms, .dat (.list (ms.map .int)), .any, ?_, ?_, ?_, hcl', hneg', by simp, by simp⟩))
        · rw [List.length_append, List.length_map]; simp
        · rw [List.length_append, List.length_map, sizeLine_eq]; simp; omega
        · rw [show ss ++ [Stp.ax m, .wk ss.length (sortI ms)] = ss ++ [.ax m] ++ [.wk ss.length (sortI ms)] by simp, List.map_append, List.map_append]; rfl
        · rw [show ss ++ [Stp.ax m, .wk ss.length (sortI ms)] = ss ++ [.ax m] ++ [.wk ss.length (sortI ms)] by simp, show cls ++ [c, sortI ms] = cls ++ [c] ++ [sortI ms] by simp]; exact d2
        · rw [show cls ++ [c, sortI ms] = cls ++ [c] ++ [sortI ms] by simp]
          have e : (ss ++ [Stp.ax m, .wk ss.length (sortI ms)]).length - 1 = (cls ++ [c]).length := by simp [hd.1]
          rw [e, List.getElem?_append_right (Nat.le_refl _), Nat.sub_self]; rfl
    · rw [List.map_append]; rfl
    · rw [List.length_append, List.length_singleton, Nat.add_sub_cancel, ← hd.1, List.getElem?_append_right (Nat.le_refl _), Nat.sub_self]; rfl
    · rintro ρ' ⟨more, mc, c', s6, s7, rfl, e1, e2, e3, e4, e5, e6⟩
      refine s_ret (e_lst (ds := [.int (((ss ++ more).length - 1 : Nat)), cD c']) (a_d (DE.to (e_sub (e_lenO 4 rfl rfl) e_int) ?_) (a_d (e_v 5 rfl rfl) a_nil))) ⟨_, ⟨more, mc, _, c', rfl, rfl, e1, e2, e3, e4, e6⟩, ?_⟩
      · rw [List.length_map]
        have : 1 ≤ (ss ++ more).length := by rw [List.length_append]; omega
        rw [Int.ofNat_sub this]
        rfl
      · intro s hs
        rcases List.mem_cons.mp hs with rfl | hs
        · exact .inr List.mem_cons_self
        · rw [List.mem_singleton.mp hs]; exact .inr (by simp)
  | ask v l r =>
    obtain ⟨v1, v2, v3, v4, htl, htr⟩ := ht
    have hcp : Cl n (withC cube (v : Int)) := withC_cl hc (by omega) v3 v4
    have hcm : Cl n (withC cube (-(v : Int))) := withC_cl hc (by omega) v4 (by rw [Int.neg_neg]; exact v3)
    have hlt : cube.length < n := by
      have := hcp.len1
      rw [withC_len] at this
      omega
    obtain ⟨d', rfl⟩ : ∃ d', d = d' + 1 := ⟨d - 1, by omega⟩
    obtain ⟨hk', h6⟩ := hr d' rfl
    have hcl1 : cube.length ≤ 1000 := by omega
    have hz' : ss.length + (1 + trSz l + trSz r) ≤ 200 := hz
    refine s_ifF0 (t_F (t_eqS (e_ixT (e_v 2 rfl rfl) e_int rfl) e_str) (by decide +kernel)) (s_asg 8 rfl (e_ixT (e_v 2 rfl rfl) e_int rfl) (s_asgG (A := A) (B := B) 9 0 4 rfl rfl rfl (by decide) h6
      (a_o 0 rfl rfl rfl (a_d (e_v 1 rfl rfl) (a_d (e_ixT (e_v 2 rfl rfl) e_int rfl) (a_d (e_call h3 (cube, -(v : Int)) (a_d (e_v 3 rfl rfl) (a_d (e_neg (e_v 8 rfl rfl)) a_nil)) hcl1 (by omega)) (a_o 4 rfl rfl rfl a_nil))))) (fun as has => ?_) hk'))
    refine ⟨⟨A, B, n, cs, l, withC cube (-(v : Int)), ss, cls⟩, [fD n cs, tD l, cD (withC cube (-(v : Int)))], has, has.symm, ⟨hf, hd, htl, hcm, by show n ≤ (withC cube (-(v : Int))).length + d'; rw [withC_len]; omega, by show ss.length + trSz l ≤ 200; omega⟩, ?_⟩
    rintro _ _ ⟨m1, mc1, i1, c1, rfl, rfl, e1, e2, e3, e4, e5⟩
    simp only at e1 e2 e3 e4 e5
    refine ⟨fun y => y = (ss ++ m1).map sD, List.mem_cons_self, List.mem_cons_of_mem _ (List.mem_singleton.mpr rfl), ?_⟩
    have keep : ∀ {ρ' : List Sl} {P : List PyData → Prop}, Sl.own A PoolOk ∈ ρ' → Sl.own B P ∈ ρ' → ∀ s ∈ [Sl.own A PoolOk, .own B P], (∃ d, s = .dat d) ∨ s ∈ ρ' := fun h1 h2 s hs => by
      rcases List.mem_cons.mp hs with rfl | hs
      · exact .inr h1
      · rw [List.mem_singleton.mp hs]; exact .inr h2
    have hlow : ∀ x ∈ c1, -x ∈ cube ∨ x = (v : Int) := fun x hx => by
      rcases withC_mem.mp (e4 x hx) with h | h
      · exact .inl h
      · exact .inr (by omega)
    refine s_ifR (t_niT (ns := c1) (e_v 8 rfl rfl) (e_ixL (e_v 9 rfl rfl) e_int rfl)) (fun hb => s_ret (e_v 9 rfl rfl) ⟨_, ⟨m1, mc1, i1, c1, rfl, rfl, e1, e2, e3, fun x hx => ?_, ?_⟩, keep List.mem_cons_self (by simp)⟩) (fun hb => ?_)
    · rcases hlow x hx with h | h
      · exact h
      · rw [h] at hx
        simp [hx] at hb
    · show m1.length ≤ 1 + trSz l + trSz r
      omega
    · have hv1 : (v : Int) ∈ c1 := by simpa using hb
      refine s_asgG (A := A) (B := B) 10 0 4 rfl rfl rfl (by decide) h6
        (a_o 0 rfl rfl rfl (a_d (e_v 1 rfl rfl) (a_d (e_ixT (e_v 2 rfl rfl) e_int rfl) (a_d (e_call h3 (cube, (v : Int)) (a_d (e_v 3 rfl rfl) (a_d (e_v 8 rfl rfl) a_nil)) hcl1 (by omega)) (a_o 4 rfl rfl rfl a_nil))))) (fun as has => ?_) hk'
      refine ⟨⟨A, B, n, cs, r, withC cube (v : Int), ss ++ m1, cls ++ mc1⟩, [fD n cs, tD r, cD (withC cube (v : Int))], has, has.symm, ⟨hf, e1, htr, hcp, by show n ≤ (withC cube (v : Int)).length + d'; rw [withC_len]; omega, by show (ss ++ m1).length + trSz r ≤ 200; rw [List.length_append]; omega⟩, ?_⟩
      rintro _ _ ⟨m2, mc2, i2, c2, rfl, rfl, f1, f2, f3, f4, f5⟩
      simp only at f1 f2 f3 f4 f5
      refine ⟨fun y => y = (ss ++ m1 ++ m2).map sD, List.mem_cons_self, List.mem_cons_of_mem _ (List.mem_singleton.mpr rfl), ?_⟩
      have hhigh : ∀ x ∈ c2, -x ∈ cube ∨ x = -(v : Int) := fun x hx => by
        rcases withC_mem.mp (f4 x hx) with h | h
        · exact .inl h
        · exact .inr (by omega)
      refine s_ifR (t_niT (ns := c2) (e_neg (e_v 8 rfl rfl)) (e_ixL (e_v 10 rfl rfl) e_int rfl)) (fun hb => s_ret (e_v 10 rfl rfl) ⟨[.own A PoolOk, .own B (fun y => y = (ss ++ (m1 ++ m2)).map sD)], ⟨m1 ++ m2, mc1 ++ mc2, i2, c2, rfl, rfl, ?_, ?_, f3, fun x hx => ?_, ?_⟩, keep List.mem_cons_self (by rw [← List.append_assoc]; exact List.mem_of_getElem? (i := 4) rfl)⟩) (fun hb => ?_)
      · rw [← List.append_assoc, ← List.append_assoc]; exact f1
      · rw [← List.append_assoc]; exact f2
      · rcases hhigh x hx with h | h
        · exact h
        · rw [h] at hx
          simp [hx] at hb
      · rw [List.length_append]
        show m1.length + m2.length ≤ 1 + trSz l + trSz r
        omega
      · have hv2 : -(v : Int) ∈ c2 := by simpa using hb
        have c1s := e3.small n4
        have c2s := f3.small n4
        have hcu : ∀ l, ((l ∈ c1 ∧ l ≠ (v : Int)) ∨ (l ∈ c2 ∧ l ≠ -(v : Int))) → -l ∈ cube := fun l hl => by
          rcases hl with ⟨a, b⟩ | ⟨a, b⟩
          · exact (hlow l a).resolve_right b
          · exact (hhigh l a).resolve_right b
        have hres : resolv c1 c2 (v : Int) = some (ssI ((c1.filter fun a => !decide (a = (v : Int))) ++ (c2.filter fun b => !decide (b = -(v : Int))))) := resolv_some hv1 hv2 fun l hl hn => hc.2.2 (-l) (hcu l hl) (hcu (-l) hn)
        generalize hR : ssI ((c1.filter fun a => !decide (a = (v : Int))) ++ (c2.filter fun b => !decide (b = -(v : Int)))) = R at hres
        have hRm : ∀ x, x ∈ R ↔ (x ∈ c1 ∧ x ≠ (v : Int)) ∨ (x ∈ c2 ∧ x ≠ -(v : Int)) := fun x => by rw [← hR]; exact res_mem
        have hRc : Cl n R := by
          refine ⟨by rw [← hR]; exact ssI_lt, fun x hx => ?_, fun x hx hx2 => hc.2.2 (-x) (hcu x ((hRm x).mp hx)) (hcu (-x) ((hRm _).mp hx2))⟩
          rcases (hRm x).mp hx with ⟨a, _⟩ | ⟨a, _⟩
          · exact e3.2.1 x a
          · exact f3.2.1 x a
        have g1 : (cls ++ mc1 ++ mc2)[i1]? = some c1 := by rw [List.getElem?_append_left (List.getElem?_eq_some_iff.mp e2).1]; exact e2
        have d3 : Der n cs (ss ++ m1 ++ m2 ++ [.res i1 i2 v]) (cls ++ mc1 ++ mc2 ++ [R]) := f1.snoc ⟨c1, c2, g1, f2, v1, hv1, hv2, hres, by omega⟩
        refine s_app 4 rfl rfl (d := sD (.res i1 i2 v)) (e_tup (ds := [.str "resolve", .int i1, .int i2, .int v]) (a_d e_str (a_d (e_ixL (e_v 9 rfl rfl) e_int rfl) (a_d (e_ixL (e_v 10 rfl rfl) e_int rfl) (a_d (e_v 8 rfl rfl) a_nil))))) ?_
          (s_asg 11 rfl (d := .list (((c1.filter fun a => !decide (a = (v : Int))) ++ (c2.filter fun b => !decide (b = -(v : Int)))).map .int)) (DE.to (e_cat
            (e_lc (enc := .int) (xs := c1) (f := fun a => !decide (a = (v : Int))) (g := PyData.int) 7 (i_T (e_ixL (e_v 9 rfl rfl) e_int rfl)) rfl (fun s H C cl fp y fx' hy => ts_1 (t_ne (e_v 7 rfl rfl) (e_v 8 rfl rfl))) (fun s H C cl fp y fx' hy hf => e_v 7 rfl rfl))
            (e_lc (enc := .int) (xs := c2) (f := fun b => !decide (b = -(v : Int))) (g := PyData.int) 7 (i_T (e_ixL (e_v 10 rfl rfl) e_int rfl)) rfl (fun s H C cl fp y fx' hy => ts_1 (t_ne (e_v 7 rfl rfl) (e_neg (e_v 8 rfl rfl)))) (fun s H C cl fp y fx' hy hf => e_v 7 rfl rfl)) ?_) (by rw [List.map_append]))
            (s_ret (e_lst (ds := [.int ((ss ++ m1 ++ m2).length : Nat), cD R]) (a_d (DE.to (e_sub (e_lenO 4 rfl rfl) e_int) ?_) (a_d (DE.to (e_tupL (e_ssI (e_v 11 rfl rfl) ?_)) (by rw [hR])) a_nil))) ⟨_, ⟨m1 ++ m2 ++ [.res i1 i2 v], mc1 ++ mc2 ++ [R], _, R, rfl, ?_, ?_, ?_, hRc, fun x hx => hcu x ((hRm x).mp hx), ?_⟩, keep List.mem_cons_self (List.mem_of_getElem? (i := 4) rfl)⟩))
        · rw [List.length_map, List.length_append, List.length_append, sizeLine_eq]; omega
        · have l1 := List.length_filter_le (fun a => !decide (a = (v : Int))) c1
          have l2 := List.length_filter_le (fun b => !decide (b = -(v : Int))) c2
          rw [List.length_map, List.length_map, sizeLine_eq]; omega
        · rw [List.length_append, List.length_map]; simp
        · have l1 := List.length_filter_le (fun a => !decide (a = (v : Int))) c1
          have l2 := List.length_filter_le (fun b => !decide (b = -(v : Int))) c2
          rw [List.length_append]; omega
        · show [Sl.own A PoolOk, Sl.own B fun y => y = List.map sD (ss ++ m1 ++ m2) ++ [sD (Stp.res i1 i2 v)]] = [Sl.own A PoolOk, Sl.own B fun y => y = List.map sD (ss ++ (m1 ++ m2 ++ [Stp.res i1 i2 v]))]
          rw [show ss ++ (m1 ++ m2 ++ [Stp.res i1 i2 v]) = ss ++ m1 ++ m2 ++ [.res i1 i2 v] by simp, List.map_append (l₁ := ss ++ m1 ++ m2)]
          rfl
        · rw [show ss ++ (m1 ++ m2 ++ [Stp.res i1 i2 v]) = ss ++ m1 ++ m2 ++ [.res i1 i2 v] by simp, show cls ++ (mc1 ++ mc2 ++ [R]) = cls ++ mc1 ++ mc2 ++ [R] by simp]; exact d3
        · rw [show cls ++ (mc1 ++ mc2 ++ [R]) = cls ++ mc1 ++ mc2 ++ [R] by simp, ← f1.1, List.getElem?_append_right (Nat.le_refl _), Nat.sub_self]; rfl
        · rw [List.length_append, List.length_append]
          show m1.length + m2.length + 1 ≤ 1 + trSz l + trSz r
          omega
end
end Rb
/-! the drawn steps -/
namespace Rb
open PySem PySem.Spec L2
def StepsD (n : Nat) (cs : List (List Int)) (d : PyData) : Prop := ∃ ss cls, d = .tuple (ss.map sD) ∧ Der n cs ss cls ∧ cls.getLast? = some [] ∧ ss.length ≤ 48
def FalseP (n : Nat) (cs : List (List Int)) : Prop := 1 ≤ n ∧ Fm n cs ∧ modelO n cs = none
section
variable {X : Cx} {k : Nat}
theorem d_Lsteps (A : Addr) (n : Nat) (cs : List (List Int)) (hp : FalseP n cs) [Fx X (defScope sL_some_steps) nL_some_steps k] [Fl X] (hk : 8 ≤ k) (h1 : Hs X "_law_draw" 2 pLdraw) (h2 : Hs X "_law_some_tree" 8 (pLtree 4)) (h3 : Hs X "_law_write" 7 (pLwrite 4)) :
    DS X [.own A PoolOk, .dat (fD n cs), .any, .any] (defBody sL_some_steps) (EndK [.own A PoolOk, .dat (fD n cs)] (StepsD n cs)) := by
  obtain ⟨n1, hf, hm⟩ := hp
  have n4 : n ≤ 4 := hf.1
  have cl0 : Cl n [] := ⟨.nil, (fun _ h => by cases h), (fun _ h => by cases h)⟩
  refine s_new 2 rfl fun B => s_asgG (A := A) (B := B) 3 0 2 rfl rfl rfl (by decide) h3
    (a_oP 0 rfl rfl rfl (a_dat (e_v 1 rfl rfl) (a_dat (e_own1 (A := A) 0 rfl rfl h2 ⟨A, n, cs, []⟩ [fD n cs, cD []] rfl (a_d (e_v 1 rfl rfl) (a_d (e_tup (ds := []) a_nil) a_nil)) ⟨hf, hm, cl0, by show n ≤ 0 + 4; omega⟩ hk) (a_dat (e_tup (ds := []) a_nil) (a_oP 2 rfl rfl rfl a_nil))))) ?_ (by omega)
  rintro as ⟨_, rfl, _, _, rfl, rfl, _, _, rfl, ⟨tr, rfl, htr, hsz⟩, _, _, rfl, rfl, _, rfl, rfl⟩
  have hsz' : trSz tr + 1 ≤ 48 := hsz
  refine ⟨⟨A, B, n, cs, tr, [], [], []⟩, [fD n cs, tD tr, cD []], rfl, rfl, ⟨hf, ⟨rfl, fun i s h => by cases h⟩, htr, cl0, by show n ≤ 0 + 4; omega, by show 0 + trSz tr ≤ 200; omega⟩, ?_⟩
  rintro _ _ ⟨more, mc, idx, c, rfl, rfl, e1, e2, e3, e4, e5⟩
  simp only [List.nil_append] at e1 e2 e3 e4 e5
  have hc0 : c = [] := by
    cases c with
    | nil => rfl
    | cons x c => have := e4 x List.mem_cons_self; cases this
  subst hc0
  have hidx := (List.getElem?_eq_some_iff.mp e2).1
  have hlen := e1.1
  refine ⟨fun y => y = more.map sD, List.mem_cons_self, List.mem_cons_of_mem _ (List.mem_singleton.mpr rfl), ?_⟩
  have keep : ∀ (ρ : List Sl), Sl.own A PoolOk ∈ ρ → ∀ s ∈ [Sl.own A PoolOk, .dat (fD n cs)], (∃ d, s = .dat d) ∨ s ∈ ρ := fun ρ h t ht => by
    rcases List.mem_cons.mp ht with rfl | ht
    · exact .inr h
    · exact .inl ⟨_, List.mem_singleton.mp ht⟩
  refine s_if (Pm := fun o => match o with | .nx ρ' => ∃ (ss : List Stp) (cls : List (List Int)), ρ' = [.own A PoolOk, .dat (fD n cs), .own B (fun y => y = ss.map sD), .dat (.list [.int (idx : Nat), cD []])] ∧ Der n cs ss cls ∧ cls.getLast? = some [] ∧ ss.length ≤ 48 | _ => False) (Qc := fun b => b = false → idx = more.length - 1)
    (t_w (w_orP (Qa := fun b => b = !decide ((idx : Int) = (more.length : Int) - 1)) (Qb := fun _ => True) (DT.to (t_ne (e_ixL (e_v 3 rfl rfl) e_int rfl) (e_sub (e_lenO 2 rfl rfl) e_int)) (by rw [List.length_map])) (fun _ => w_1o (q_eqP (e_draw (A := A) 0 rfl rfl h1 e_int (by decide) (by omega)) e_int (fun _ _ => trivial))) (fun h hx => by cases hx) (fun x h _ _ => ?_))) (fun _ => ?_) (fun h => ?_) ?_ (fun _ _ h => h.elim) (fun _ _ h => h.elim)
  · have := of_decide_eq_true (by simpa using h : decide ((idx : Int) = (more.length : Int) - 1) = true)
    omega
  · refine s_app 2 rfl rfl (d := sD (.wk idx [])) (e_tup (ds := [.str "weaken", .int idx, cD []]) (a_d e_str (a_d (e_ixL (e_v 3 rfl rfl) e_int rfl) (a_d (e_tup (ds := []) a_nil) a_nil)))) (by rw [List.length_map, sizeLine_eq]; omega) (s_nil ⟨more ++ [.wk idx []], mc ++ [[]], by rw [List.map_append]; rfl, e1.snoc (s := .wk idx []) ⟨[], e2, (fun _ h => h), rfl, cl0⟩, by rw [List.getLast?_append]; rfl, by rw [List.length_append, List.length_singleton]; omega⟩)
  · have hi := h rfl
    refine s_nil ⟨more, mc, rfl, e1, ?_, by omega⟩
    rw [List.getLast?_eq_getElem?, hlen, ← hi]
    exact e2
  · rintro ρ' ⟨ss, cls, rfl, hd, hla, hl⟩
    exact s_frz 2 rfl (s_ret (e_tupL (e_v 2 rfl rfl)) ⟨⟨ss, cls, rfl, hd, hla, hl⟩, keep _ List.mem_cons_self⟩)
abbrev pLsteps : Sp := spK (T := Addr × Nat × List (List Int)) (fun t => [.own t.1 PoolOk, .dat (fD t.2.1 t.2.2)]) (fun t => FalseP t.2.1 t.2.2) (fun t => StepsD t.2.1 t.2.2)
end
end Rb
/-! own dicts of int keys -/
namespace Rb
open PySem PySem.Spec L2
section
variable {X : Cx} {ρ : List Sl} {sc : Scope} {N : List Str} {k : Nat} {a b c e o : Expr} {sts : List Stmt} {pos p p1 p2 p3 : Pos} {x : Str} {A : Addr} {kvs : List (Key × V)} {Pt : Out → Prop} {d : PyData} {i : Int}
theorem dct_adr {H0 F H : Hp} {σ : St} (r : Rep H0 ρ σ F H) {n : Nat} (h : ρ[n]? = some (.dct A kvs)) : σ[n]? = some (some (.ref A)) ∧ H0 A = none ∧ F A = none ∧ H A = some (.dK kvs) := by
  obtain ⟨x, q1, rfl, q2⟩ := r.ok n _ h
  exact ⟨q1, q2⟩
theorem dct_put {H0 F H : Hp} {σ : St} {kvs' : List (Key × V)} (r1 : Rep H0 ρ σ F H) {n : Nat} (hρ : ρ[n]? = some (.dct A kvs)) : Rep H0 (ρ.set n (.dct A kvs')) σ F (upd H A (.dK kvs')) := by
  obtain ⟨w2, z0, z1, z2⟩ := dct_adr r1 hρ
  have hdist : ∀ (m : Nat) (t : Sl), ρ[m]? = some t → t.adr = some A → m = n := fun m t em et => r1.ap m n t _ A em hρ et rfl
  refine ⟨by rw [List.length_set]; exact r1.len, fun m t em => ?_, fun m1 m2 t1 t2 a e1 e2 a1 a2 => ?_⟩
  · rw [List.getElem?_set] at em
    split at em
    · rename_i hm
      subst hm
      split at em
      · cases em
        exact ⟨_, w2, rfl, z0, z1, upd_same⟩
      · cases em
    · rename_i hm
      obtain ⟨x', q1, q2⟩ := r1.ok m t em
      refine ⟨x', q1, ?_⟩
      cases t with
      | any => trivial
      | dat d => exact q2
      | own b P =>
        obtain ⟨e1, y1, y2, us, es, y3, y4⟩ := q2
        exact ⟨e1, y1, y2, us, es, by rw [upd_ne (fun h => hm (hdist m _ em (by rw [h]; rfl)).symm)]; exact y3, y4⟩
      | dct b kvs =>
        obtain ⟨e1, y1, y2, y3⟩ := q2
        exact ⟨e1, y1, y2, by rw [upd_ne (fun h => hm (hdist m _ em (by rw [h]; rfl)).symm)]; exact y3⟩
      | obj b C fs =>
        obtain ⟨e1, dx, us, y1, y2⟩ := q2
        exact ⟨e1, dx, us, by rw [upd_ne (fun h => by rw [h, z2] at y1; cases y1)]; exact y1, y2⟩
  · have back : ∀ (m : Nat) (t : Sl), (ρ.set n (.dct A kvs'))[m]? = some t → t.adr = some a → ∃ t', ρ[m]? = some t' ∧ t'.adr = some a := fun m t em at_ => by
      rw [List.getElem?_set] at em
      split at em
      · rename_i hm
        subst hm
        split at em
        · cases em
          exact ⟨_, hρ, at_⟩
        · cases em
      · exact ⟨t, em, at_⟩
    obtain ⟨t1', b1, c1⟩ := back m1 t1 e1 a1
    obtain ⟨t2', b2, c2⟩ := back m2 t2 e2 a2
    exact r1.ap m1 m2 t1' t2' a b1 b2 c1 c2
theorem key_int {F : Hp} {v : V} (h : Is F v (.int i)) : v = kV (.inl i) := h.int_inv
/-- i in d -/
theorem t_inD [fx : Fx X sc N k] (n : Nat) (ha : DE X ρ a (.int i)) (hN : N[n]? = some x) (hρ : ρ[n]? = some (.dct A kvs)) (hv : visB sc x = true := by decide +kernel) (hm : behindInMarks .In (.Name x p) = false := by rfl) : DT X ρ (.Compare a [.In] [.Name x p] pos) (valV kvs (.inl i)).isSome := by
  obtain ⟨h1, h2, h3⟩ := vis_of (X := X) fx.hsc hv
  refine PT.weak (pt_cmp (pc_din (Nat.lt_of_le_of_lt (Nat.add_le_add_left (by decide : 1 ≤ 64) _) fx.room.units) ha (pe_var (i := n) (by rw [fx.hN]; exact hN) h1 h2 h3)) hm) fun σ H Q ⟨F0, H0, F, g, r, q⟩ => ⟨F0, H0, F, g, r, fun v d F1 H1 p1 g1 s1 r1 i1 => ⟨_, (dct_adr r1 hρ).1, ?_⟩⟩
  subst p1
  obtain ⟨_, _, _, z2⟩ := dct_adr r1 hρ
  rw [key_int i1]
  exact ⟨A, _, rfl, DGet.k z2, _, rfl, q _ F1 H1 rfl g1 s1 r1⟩
/-- d[i] -/
theorem e_dget [fx : Fx X sc N k] {v : V} (n : Nat) (hN : N[n]? = some x) (hρ : ρ[n]? = some (.dct A kvs)) (ha : DE X ρ a (.int i)) (hg : valV kvs (.inl i) = some v) (hvd : ∀ F, Is F v d) (hv : visB sc x = true := by decide +kernel) (hs : NoSl a := by exact fun _ _ => rfl) : DE X ρ (.Subscript (.Name x p) a pos) d := by
  obtain ⟨h1, h2, h3⟩ := vis_of (X := X) fx.hsc hv
  refine PE.weak (pe_dget (Nat.lt_of_le_of_lt (Nat.add_le_add_left (by decide : 1 ≤ 64) _) fx.room.units) (pe_var (i := n) (by rw [fx.hN]; exact hN) h1 h2 h3) ha hs) fun σ H Q ⟨F0, H0, F, g, r, q⟩ => ⟨_, (dct_adr r hρ).1, F0, H0, F, g, r, fun v' d' F1 H1 p1 g1 s1 r1 i1 => ?_⟩
  subst p1
  obtain ⟨_, _, _, z2⟩ := dct_adr r1 hρ
  rw [key_int i1]
  exact ⟨A, v, rfl, by rw [← hg]; exact DGet.k z2, q v d F1 H1 rfl g1 s1 r1 (hvd F1)⟩
/-- x = {} -/
theorem s_dnew [fx : Fx X sc N k] [fl : Fl X] (n : Nat) (hN : N[n]? = some x) (hr : ∀ A, DS X (ρ.set n (.dct A [])) sts Pt) (hl : locB sc x = true := by decide +kernel) : DS X ρ (.Assign [.Name x p1] (.Dict [] [] p2) pos :: sts) Pt := by
  refine PSs.weak (pss_cons (ps_set (i := n) (by rw [fx.hN]; exact fx.nd) (by rw [fx.hN]; exact hN) (loc_of fx.hsc hl) pe_dnewK rfl (.inl (fl.fn _))) (ex_s (q := fun _ : Addr => True) (t := fun A => tS (ρ.set n (.dct A [])) Pt) fun A _ => hr A)) fun D σ H ⟨F0, H0, F, g, r, q⟩ => ?_
  refine fun l hl => ⟨l, trivial, F0, H0, F, g.trans (Gw.new g.fh hl), (r.mono (Gw.new g.fh hl)).set ⟨rfl, g.hh.free hl, g.fh.free hl, upd_same⟩ (fun a ea m t em et => ?_), fun o po => q o po⟩
  cases ea
  have hm := r.ok m t em
  obtain ⟨x, _, q2⟩ := hm
  obtain ⟨_, _, o, ho, _⟩ := mut_adr q2.mut et
  rw [hl] at ho
  cases ho
/-- x = {i: e} -/
theorem s_dnew1 [fx : Fx X sc N k] [fl : Fl X] {v : V} (n : Nat) (hN : N[n]? = some x) (ha : DE X ρ a (.int i)) (hb : PE X b (tC v)) (hr : ∀ A, DS X (ρ.set n (.dct A [(.inl i, v)])) sts Pt) (hl : locB sc x = true := by decide +kernel) : DS X ρ (.Assign [.Name x p1] (.Dict [some a] [b] p2) pos :: sts) Pt := by
  refine PSs.weak (pss_cons (ps_set (i := n) (by rw [fx.hN]; exact fx.nd) (by rw [fx.hN]; exact hN) (loc_of fx.hsc hl) (pe_disp (pps_cons ha hb pps_nil) rfl rfl (by simp) (Nat.le_of_ble_eq_true rfl)) rfl (.inl (fl.fn _))) (ex_s (q := fun _ : Addr => True) (t := fun A => tS (ρ.set n (.dct A [(.inl i, v)])) Pt) fun A _ => hr A)) fun D σ H ⟨F0, H0, F, g, r, q⟩ => ?_
  intro l hlf
  have gw := Gw.new (o := .dK []) g.fh hlf
  have h0l : H0 l = none := g.hh.free hlf
  have f0l : F0 l = none := g.ff.free (g.fh.free hlf)
  have hloc : ∀ s ∈ ρ, s.loc ≠ some l := fun s hs e => by
    obtain ⟨o, ho⟩ := r.loc hs e
    rw [hlf] at ho
    cases ho
  refine ⟨F0, upd H0 l (.dK []), F, (g.trans gw).h0 upd_same (g.fh.free hlf), (r.mono gw).h0 hloc, fun v1 d1 F1 H1 p1 g1 s1 r1 i1 => ?_⟩
  subst p1
  obtain ⟨z1, z2, z3⟩ := g1.unh0 h0l f0l
  have r2 := r1.unh0 h0l
  refine ⟨z3, [(.inl i, v)], by rw [key_int i1]; rfl, Nat.le_of_ble_eq_true rfl, l, trivial, F0, H0, F1, z1.put h0l z2, ?_, fun o po => (q o po).mono s1⟩
  refine (r2.put hloc).set (s := .dct l [(.inl i, v)]) ⟨rfl, h0l, z2, upd_same⟩ (fun a ea m t em et => ?_)
  cases ea
  exact absurd (show t.loc = some l by cases t <;> first | exact et | cases et) (hloc t (List.mem_of_getElem? em))
/-- d[i] = e -/
theorem s_dput [fx : Fx X sc N k] {v : V} (n : Nat) (hN : N[n]? = some x) (hρ : ρ[n]? = some (.dct A kvs)) (ha : DE X ρ a (.int i)) (hb : DE X ρ b d) (hvd : ∀ F w, Is F w d → w = v) (hz : kvs.length < sizeLine) (hr : DS X (ρ.set n (.dct A (putK kvs (.inl i) v))) sts Pt) (hv : visB sc x = true := by decide +kernel)
    (hs : swapsWith b (some (.Subscript (.Name x p1) a p2)) pos.line X.env = pure false := by rfl) : DS X ρ (.Assign [.Subscript (.Name x p1) a p2] b pos :: sts) Pt := by
  obtain ⟨h1, h2, h3⟩ := vis_of (X := X) fx.hsc hv
  refine PSs.weak (pss_cons (ps_dput (Nat.lt_of_le_of_lt (Nat.add_le_add_left (by decide : 1 ≤ 64) _) fx.room.units) (pe_var (i := n) (by rw [fx.hN]; exact hN) h1 h2 h3) ha hb hs) hr) fun D σ H ⟨F0, H0, F, g, r, q⟩ => ⟨F0, H0, F, g, r, fun v1 d1 F1 H1 p1 g1 s1 r1 i1 => ⟨_, (dct_adr r1 hρ).1, F0, H0, F1, g1, r1, fun v2 d2 F2 H2 p2 g2 s2 r2 i2 => ?_⟩⟩
  subst p1; subst p2
  obtain ⟨_, z0, z1, z2⟩ := dct_adr r2 hρ
  have ev := hvd _ _ i1
  subst ev
  rw [key_int i2]
  exact ⟨A, _, rfl, DPut.k z2 hz, F0, H0, F2, g2.put z0 z1, dct_put r2 hρ, fun o po => (q o po).mono (s1.trans s2)⟩
/-- sorted(d) -/
theorem e_sortD [fx : Fx X sc N k] {ns : List Int} (n : Nat) (hN : N[n]? = some x) (hρ : ρ[n]? = some (.dct A kvs)) (hk : kvs.map (·.1) = ns.map Sum.inl) (hl : ns.length < 64) (hv : visB sc x = true := by decide +kernel) (hg : glB sc "sorted" = true := by decide +kernel) : DE X ρ (.Call (.Name "sorted" p) [.Name x p1] [] pos) (.list ((sortI ns).map .int)) := by
  obtain ⟨h1, h2, h3⟩ := vis_of (X := X) fx.hsc hv
  refine PE.weak (pe_callB (call_sortedDI fx.calm) (gl_of fx.hsc hg).1 (fx.bn _ bn_sorted) (by decide +kernel) (pa_cons (pe_var (i := n) (by rw [fx.hN]; exact hN) h1 h2 h3) pa_nil)) fun σ H Q ⟨F0, H0, F, g, r, q⟩ => ⟨_, (dct_adr r hρ).1, ?_⟩
  obtain ⟨_, z0, z1, z2⟩ := dct_adr r hρ
  refine ⟨A, kvs, ns, rfl, .inl z2, hk, hl, fun ys pp hp hw hpn => ?_⟩
  have e := sortI_eq hp hw
  subst e
  have gw := Gw.dat (o := .lst ((sortI ns).map V.int)) g.fh hpn
  exact q _ _ _ _ rfl (g.trans gw) gw.ff (r.mono gw) ⟨.lst upd_same (dqA_ints _), sz_list.mpr ⟨by rw [List.length_map, hp.length_eq, sizeLine_eq]; omega, fun d hd => by obtain ⟨i, _, rfl⟩ := List.mem_map.mp hd; exact sz_int i⟩⟩
/-- range(n, -1, -1) -/
theorem i_down [fx : Fx X sc N k] {tg : Expr} {n : Nat} (h : DE X ρ a (.int n)) (h2 : DE X ρ b (.int (-1))) (h3 : DE X ρ c (.int (-1))) (hn : n ≤ 1000) (hg : glB sc "range" = true := by decide +kernel) (hs : starEach [a, b, c] X.env = [(false, eval a X.env), (false, eval b X.env), (false, eval c X.env)] := by rfl) (hs2 : starEach [b, c] X.env = [(false, eval b X.env), (false, eval c X.env)] := by rfl) (hs3 : starEach [c] X.env = [(false, eval c X.env)] := by rfl) :
    DI X ρ tg (.Call (.Name "range" p) [a, b, c] [] pos) (fun x => x = (List.range (n + 1)).map fun i => .int ((n : Int) - (i : Nat))) := by
  refine PI.weak (pi_range3 (gl_of fx.hsc hg).1 (fx.bn _ bn_range) (a_d h (a_d h2 (a_d h3 a_nil (by rw [hs3]; rfl)) (by rw [hs2, hs3])) (by rw [hs, hs2])) (by rw [hs, hs2]) (by rw [hs2]; rfl)) fun σ H R ⟨F0, H0, F, g, r, q⟩ => ⟨F0, H0, F, g, r, fun vs as F1 H1 p1 g1 s1 r1 i1 => ?_⟩
  subst p1
  have ev : vs = [.int (n : Nat), .int (-1), .int (-1)] := by
    cases i1 with
    | cons q1 q2 =>
      obtain ⟨v, e, q⟩ := q1
      cases e
      rw [q.int_inv, ar2 q2]
  refine ⟨n, -1, -1, ((n : Int) - (-1)).toNat, ev, RgC.neg (by omega) (by omega) (by omega) (by omega), ?_⟩
  have en : ((n : Int) - (-1)).toNat = n + 1 := by omega
  rw [en]
  refine q _ _ F1 H1 rfl g1 s1 r1 (fun F' H' _ s2 i hi => ?_) (by rw [List.length_map, List.length_range, sizeLine_eq]; omega)
  rw [List.length_map, List.length_range] at hi
  rw [List.length_map, List.length_range]
  refine ⟨fun hlt => ⟨hlt, fun x H2 y => ?_⟩, fun he => by rw [he]; exact Nat.le_refl (n + 1)⟩
  obtain ⟨rfl, rfl⟩ := y
  refine ⟨F', _, Gw.refl s2, by rw [List.getElem?_map, List.getElem?_range hlt]; rfl, ?_⟩
  have e : (n : Int) + (i : Nat) * (-1) = (n : Int) - (i : Nat) := by omega
  rw [e]
  exact is_int
end
end Rb
/-! pruned steps -/
namespace Rb
open PySem PySem.Spec L2
def mv (f : Nat → Nat) : Stp → Stp
  | .ax i => .ax i
  | .res a b v => .res (f a) (f b) v
  | .wk a c => .wk (f a) c
structure MvT where
  A : Addr
  kvs : List (Key × V)
  s : Stp
  f : Nat → Nat
abbrev pMoved : Sp := spK (T := MvT) (fun t => [.dat (sD t.s), .dct t.A t.kvs]) (fun t => ∀ a ∈ srcs t.s, valV t.kvs (.inl (a : Int)) = some (.int (t.f a : Nat))) (fun t d => d = sD (mv t.f t.s))
section
variable {X : Cx} {k : Nat}
theorem d_moved (t : MvT) (h : ∀ a ∈ srcs t.s, valV t.kvs (.inl (a : Int)) = some (.int (t.f a : Nat))) [Fx X (defScope sP_moved) nP_moved k] [Fl X] : DS X [.dat (sD t.s), .dct t.A t.kvs] (defBody sP_moved) (EndK [.dat (sD t.s), .dct t.A t.kvs] (fun d => d = sD (mv t.f t.s))) := by
  obtain ⟨A, kvs, s, f⟩ := t
  simp only at h ⊢
  have keep : ∀ x ∈ [Sl.dat (sD s), .dct A kvs], (∃ d, x = .dat d) ∨ x ∈ [Sl.dat (sD s), .dct A kvs] := fun x hx => .inr hx
  cases s with
  | ax i => exact s_ifTR (t_T (t_eqS (e_ixT (e_v 0 rfl rfl) e_int rfl) e_str) (by decide +kernel)) (s_ret (e_v 0 rfl rfl) ⟨rfl, keep⟩)
  | res a b v =>
    have ha := h a (by simp [srcs])
    have hb := h b (by simp [srcs])
    exact s_ifF0 (t_F (t_eqS (e_ixT (e_v 0 rfl rfl) e_int rfl) e_str) (by decide +kernel)) (s_ifTR (t_T (t_eqS (e_ixT (e_v 0 rfl rfl) e_int rfl) e_str) (by decide +kernel)) (s_ret (e_tup (ds := [.str "resolve", .int (f a : Nat), .int (f b : Nat), .int v]) (a_d e_str (a_d (e_dget 1 rfl rfl (e_ixT (e_v 0 rfl rfl) e_int rfl) ha (fun _ => is_int)) (a_d (e_dget 1 rfl rfl (e_ixT (e_v 0 rfl rfl) e_int rfl) hb (fun _ => is_int)) (a_d (e_ixT (e_v 0 rfl rfl) e_int rfl) a_nil))))) ⟨rfl, keep⟩))
  | wk a c =>
    have ha := h a (by simp [srcs])
    exact s_ifF0 (t_F (t_eqS (e_ixT (e_v 0 rfl rfl) e_int rfl) e_str) (by decide +kernel)) (s_ifF0 (t_F (t_eqS (e_ixT (e_v 0 rfl rfl) e_int rfl) e_str) (by decide +kernel)) (s_ret (e_tup (ds := [.str "weaken", .int (f a : Nat), cD c]) (a_d e_str (a_d (e_dget 1 rfl rfl (e_ixT (e_v 0 rfl rfl) e_int rfl) ha (fun _ => is_int)) (a_d (e_ixT (e_v 0 rfl rfl) e_int rfl) a_nil)))) ⟨rfl, keep⟩))
end
/-! ### the two tables -/
def uK (U : List Nat) : List (Key × V) := U.map fun k : Nat => (Sum.inl (k : Int), V.bl true)
def pK (ys : List Nat) : List (Key × V) := ys.zipIdx.map fun p => (Sum.inl (p.1 : Int), V.int (p.2 : Nat))
theorem uK_in {U : List Nat} {k : Nat} : (valV (uK U) (.inl (k : Int))).isSome = decide (k ∈ U) := by
  induction U with
  | nil => rfl
  | cons u U ih =>
    unfold uK at *
    rw [List.map_cons]
    by_cases h : u = k
    · rw [valV_pos (by rw [h])]; simp [h]
    · rw [valV_neg (fun e => h (by have := Sum.inl.inj e; omega)), ih]
      simp [Ne.symm h]
theorem uK_put {U : List Nat} {k : Nat} : putK (uK U) (.inl (k : Int)) (.bl true) = uK (if k ∈ U then U else U ++ [k]) := by
  unfold putK
  rw [valV_any, uK_in]
  by_cases h : k ∈ U
  · rw [if_pos (decide_eq_true h), if_pos h]
    unfold uK
    rw [List.map_map]
    apply List.map_congr_left
    intro x _
    by_cases e : (Sum.inl (x : Int) : Key) = .inl (k : Int)
    · show (if _ then _ else _) = _
      rw [if_pos e]
    · show (if _ then _ else _) = _
      rw [if_neg e]
  · rw [if_neg (by simpa using h), if_neg h]
    unfold uK
    rw [List.map_append]
    rfl
theorem pK_app (ys : List Nat) (k : Nat) : pK (ys ++ [k]) = pK ys ++ [(.inl (k : Int), .int (ys.length : Nat))] := by
  unfold pK
  rw [List.zipIdx_append, List.map_append]
  simp
theorem pK_get {ys : List Nat} {k : Nat} : valV (pK ys) (.inl (k : Int)) = if k ∈ ys then some (.int (ys.idxOf k : Nat)) else none := by
  have key : ∀ m, m ≤ ys.length → valV (pK (ys.take m)) (.inl (k : Int)) = if k ∈ ys.take m then some (.int ((ys.take m).idxOf k : Nat)) else none := by
    intro m
    induction m with
    | zero => intro _; simp [pK, valV_nil]
    | succ m ih =>
      intro hm
      have ih := ih (by omega)
      have hc : ys[m]? = some ys[m] := List.getElem?_eq_getElem (by omega)
      rw [List.take_add_one, hc, Option.toList_some, pK_app]
      generalize ys.take m = zs at ih ⊢
      generalize ys[m] = y
      by_cases h : k ∈ zs
      · rw [if_pos (List.mem_append_left _ h)]
        rw [if_pos h] at ih
        have e : (zs ++ [y]).idxOf k = zs.idxOf k := by rw [List.idxOf_append, if_pos h]
        rw [e]
        unfold valV at ih ⊢
        rw [List.find?_append]
        cases q : (pK zs).find? (fun kv => decide (kv.1 = Sum.inl (k : Int))) with
        | none => rw [q] at ih; cases ih
        | some z => rw [q] at ih; exact ih
      · rw [if_neg h] at ih
        by_cases e : y = k
        · subst e
          rw [valV_snoc _ _ _ _ ih, if_pos rfl, if_pos (List.mem_append_right _ (List.mem_singleton.mpr rfl)), List.idxOf_append, if_neg h]
          simp
        · have hn : k ∉ zs ++ [y] := fun hk => by
            rcases List.mem_append.mp hk with hk | hk
            · exact h hk
            · exact e (List.mem_singleton.mp hk).symm
          rw [if_neg hn]
          unfold valV at ih ⊢
          rw [List.find?_append]
          cases q : (pK zs).find? (fun kv => decide (kv.1 = Sum.inl (k : Int))) with
          | some z => rw [q] at ih; cases ih
          | none =>
            have : decide ((Sum.inl (y : Int) : Key) = .inl (k : Int)) = false := decide_eq_false fun q => e (by have := Sum.inl.inj q; omega)
            simp [this]
            omega
  have := key ys.length (Nat.le_refl _)
  rwa [List.take_length] at this
theorem pK_put {ys : List Nat} {k : Nat} (h : k ∉ ys) : putK (pK ys) (.inl (k : Int)) (.int (ys.length : Nat)) = pK (ys ++ [k]) := by
  unfold putK
  rw [valV_any, pK_get, if_neg h, if_neg (by simp), pK_app]
theorem pK_len (ys : List Nat) : (pK ys).length = ys.length := by unfold pK; simp
theorem nodup_lt {U : List Nat} {m : Nat} (h : U.Nodup) (hl : ∀ u ∈ U, u < m) : U.length ≤ m := by
  have := List.Nodup.length_le_of_subset h (l₂ := List.range m) fun u hu => List.mem_range.mpr (hl u hu)
  simpa using this
/-! ### the plain law of pruning -/
structure Keep (ss : List Stp) (last : Nat) (ys : List Nat) : Prop where
  lt : ys.Pairwise (· < ·)
  mem : last ∈ ys
  le : ∀ y ∈ ys, y ≤ last
  cl : ∀ y ∈ ys, ∀ s, ss[y]? = some s → ∀ a ∈ srcs s, a ∈ ys
def PrunedD (n : Nat) (cs : List (List Int)) (ss : List Stp) (cls : List (List Int)) (last : Nat) (d : PyData) : Prop := ∃ ms mcls, d = .tuple (ms.map sD) ∧ Der n cs ms mcls ∧ mcls.getLast? = cls[last]? ∧ ms.length ≤ ss.length ∧ ∀ c ∈ mcls, c ∈ cls
def prune (ss : List Stp) (ys : List Nat) : List Stp := ys.map fun y => mv (fun a => ys.idxOf a) (ss.getD y (.ax 0))
theorem idxOf_lt {ys : List Nat} (h : ys.Pairwise (· < ·)) {i : Nat} (hi : i < ys.length) {a : Nat} (ha : a ∈ ys) (hlt : a < ys[i]) : ys.idxOf a < i := by
  have hl := List.idxOf_lt_length_of_mem ha
  have he : ys[ys.idxOf a] = a := List.getElem_idxOf hl
  have hnn : ¬ i ≤ ys.idxOf a := fun hle => by
    rcases Nat.lt_or_eq_of_le hle with q | q
    · have := List.pairwise_iff_getElem.mp h i (ys.idxOf a) hi hl q
      omega
    · have e2 : ys[i] = a := by
        have : ys[i]? = some a := by rw [q, List.getElem?_eq_getElem hl, he]
        rw [List.getElem?_eq_getElem hi] at this
        exact Option.some.inj this
      omega
  omega
theorem prune_der {n : Nat} {cs : List (List Int)} {ss : List Stp} {cls : List (List Int)} {last : Nat} {ys : List Nat} (hd : Der n cs ss cls) (hl : last < ss.length) (k : Keep ss last ys) : PrunedD n cs ss cls last (.tuple ((prune ss ys).map sD)) := by
  have hyl : ∀ y ∈ ys, y < ss.length := fun y hy => by have := k.le y hy; omega
  refine ⟨prune ss ys, ys.map fun y => cls.getD y [], rfl, ⟨by simp [prune], fun i s hs => ?_⟩, ?_, ?_, fun c hc => ?_⟩
  · unfold prune at hs
    rw [List.getElem?_map] at hs
    cases hy : ys[i]? with
    | none => rw [hy] at hs; cases hs
    | some y =>
      rw [hy] at hs
      obtain ⟨hil, ey⟩ := List.getElem?_eq_some_iff.mp hy
      have hym : y ∈ ys := List.mem_of_getElem? hy
      have hyS := hyl y hym
      have hsy : ss[y]? = some ss[y] := List.getElem?_eq_getElem hyS
      obtain ⟨c, hc, hf⟩ := hd.2 y _ hsy
      have es : s = mv (fun a => ys.idxOf a) ss[y] := by rw [← getD_get (d := Stp.ax 0) hyS]; exact (Option.some.inj hs).symm
      have ec : cls.getD y [] = c := by rw [List.getD_eq_getElem?_getD, hc]; rfl
      refine ⟨c, by rw [List.getElem?_map, hy]; simp only [Option.map_some]; rw [ec], ?_⟩
      rw [es]
      -- the sources stand earlier
      have src : ∀ a ∈ srcs ss[y], ∀ p, (cls.take y)[a]? = some p → ((ys.map fun y => cls.getD y []).take i)[ys.idxOf a]? = some p := fun a ha p hp => by
        have ham : a ∈ ys := k.cl y hym _ hsy a ha
        have hay : a < y := by have := (List.getElem?_eq_some_iff.mp hp).1; rw [List.length_take] at this; omega
        have hidx := idxOf_lt k.lt hil ham (by rw [ey]; exact hay)
        have hlen := List.idxOf_lt_length_of_mem ham
        rw [List.getElem?_take_of_lt hidx, List.getElem?_map, List.getElem?_eq_getElem hlen, List.getElem_idxOf hlen, Option.map_some]
        rw [List.getElem?_take_of_lt hay] at hp
        rw [List.getD_eq_getElem?_getD, hp]
        rfl
      generalize hst : ss[y] = st at hf src
      cases st with
      | ax m => exact hf
      | wk a c' =>
        obtain ⟨p, h1, h2⟩ := hf
        exact ⟨p, src a (by simp [srcs]) p h1, h2⟩
      | res a b v =>
        obtain ⟨p, q, h1, h2, h3⟩ := hf
        exact ⟨p, q, src a (by simp [srcs]) p h1, src b (by simp [srcs]) q h2, h3⟩
  · rw [List.getLast?_map]
    have hlast : ys.getLast? = some last := by
      have hne : ys ≠ [] := List.ne_nil_of_mem k.mem
      obtain ⟨i, hi, ei⟩ := List.getElem_of_mem k.mem
      have hll : ys.length - 1 < ys.length := by omega
      have e : ys[ys.length - 1] = last := by
        have h1 := k.le _ (List.getElem_mem hll)
        rcases Nat.lt_or_eq_of_le (show i ≤ ys.length - 1 by omega) with q | q
        · have := List.pairwise_iff_getElem.mp k.lt i (ys.length - 1) hi hll q
          omega
        · have : ys[ys.length - 1]? = some last := by rw [← q, List.getElem?_eq_getElem hi, ei]
          rw [List.getElem?_eq_getElem hll] at this
          exact Option.some.inj this
      rw [List.getLast?_eq_getElem?, List.getElem?_eq_getElem hll, e]
    rw [hlast, Option.map_some]
    have : last < cls.length := by rw [hd.1]; exact hl
    rw [List.getElem?_eq_getElem this, getD_get this]
  · unfold prune
    rw [List.length_map]
    exact nodup_lt (k.lt.imp fun h => Nat.ne_of_lt h) hyl
  · obtain ⟨y, hy, rfl⟩ := List.mem_map.mp hc
    have : y < cls.length := by rw [hd.1]; exact hyl y hy
    rw [getD_get this]
    exact List.getElem_mem _
end Rb
/-! pruned_to -/
namespace Rb
open PySem PySem.Spec L2
structure PrT where
  n : Nat
  cs : List (List Int)
  ss : List Stp
  cls : List (List Int)
  last : Nat
abbrev pPruned : Sp := spK (T := PrT) (fun t => [.dat (.list (t.ss.map sD)), .dat (.int t.last)]) (fun t => Der t.n t.cs t.ss t.cls ∧ t.last < t.ss.length ∧ t.ss.length ≤ 60) (fun t => PrunedD t.n t.cs t.ss t.cls t.last)
theorem Der.src {n : Nat} {cs : List (List Int)} {ss : List Stp} {cls : List (List Int)} (hd : Der n cs ss cls) {y : Nat} {s : Stp} (h : ss[y]? = some s) : ∀ a ∈ srcs s, a < y := fun a ha => by
  obtain ⟨c, hc, hf⟩ := hd.2 y s h
  have key : ∀ {a : Nat} {p : List Int}, (cls.take y)[a]? = some p → a < y := fun e => by have := (List.getElem?_eq_some_iff.mp e).1; rw [List.length_take] at this; omega
  cases s with
  | ax i => cases ha
  | wk b c' => obtain ⟨p, h1, _⟩ := hf; rw [List.mem_singleton.mp ha]; exact key h1
  | res b b2 v =>
    obtain ⟨p, q, h1, h2, _⟩ := hf
    rcases List.mem_cons.mp ha with rfl | ha
    · exact key h1
    · rw [List.mem_singleton.mp ha]; exact key h2
section
variable {X : Cx} {k : Nat}
theorem d_pruned (t : PrT) (hp : Der t.n t.cs t.ss t.cls ∧ t.last < t.ss.length ∧ t.ss.length ≤ 60) [Fx X (defScope sP_pruned_to) nP_pruned_to k] [Fl X] (hk : 1 ≤ k) (h1 : Hs X "sources" 1 pSources) (h2 : Hs X "moved" 1 pMoved) :
    DS X [.dat (.list (t.ss.map sD)), .dat (.int t.last), .any, .any, .any, .any, .any] (defBody sP_pruned_to) (EndK [.dat (.list (t.ss.map sD)), .dat (.int t.last)] (PrunedD t.n t.cs t.ss t.cls t.last)) := by
  obtain ⟨n, cs, ss, cls, last⟩ := t
  obtain ⟨hd, hl, hz⟩ := hp
  simp only at hd hl hz ⊢
  have ats : ∀ (y : Nat) (s : Stp), ss[y]? = some s → atI (ss.map sD) (y : Int) = some (sD s) := fun y s e => by rw [atI_map, atI_nn e]; rfl
  -- after m rounds: what stands above last - m is closed
  let Inv1 : Nat → List Nat → Prop := fun m U => U.Nodup ∧ last ∈ U ∧ (∀ u ∈ U, u ≤ last) ∧ ∀ y ∈ U, last < y + m → ∀ s, ss[y]? = some s → ∀ a ∈ srcs s, a ∈ U
  refine s_dnew1 (v := .bl true) 2 rfl (e_v 1 rfl rfl) pe_bl fun A => s_forN 3 rfl (i_down (n := last) (e_v 1 rfl rfl) (e_neg e_int) (e_neg e_int) (by omega))
    (fun ds m ρ' => ∃ U s3 s4, ρ' = [.dat (.list (ss.map sD)), .dat (.int last), .dct A (uK U), s3, s4, .any, .any] ∧ Inv1 m U) (fun ds _ => ⟨[last], _, _, rfl, by simp, by simp, (fun u hu => by rw [List.mem_singleton.mp hu]; exact Nat.le_refl _), (fun y hy h => by rw [List.mem_singleton.mp hy] at h; omega)⟩) ?_ ?_
  · rintro ds m d ρ' rfl hm ⟨U, s3, s4, rfl, u1, u2, u3, u4⟩
    have hml : m < last + 1 := by have := (List.getElem?_eq_some_iff.mp hm).1; simpa using this
    rw [List.getElem?_map, List.getElem?_range hml] at hm
    cases hm
    obtain ⟨y, hy⟩ : ∃ y : Nat, (last : Int) - (m : Nat) = (y : Int) := ⟨last - m, by omega⟩
    have hyl : y + m = last := by omega
    simp only [hy]
    have hys : y < ss.length := by omega
    have hsy : ss[y]? = some ss[y] := List.getElem?_eq_getElem hys
    refine s_ifB (DT.to (t_inD (A := A) (kvs := uK U) 2 (e_v 3 rfl rfl) rfl rfl) uK_in) (fun hb => ?_) (fun hb => s_nil (s_nil ⟨U, _, _, rfl, u1, u2, u3, fun z hz hlt s hs a ha => ?_⟩))
    · have hyU : y ∈ U := of_decide_eq_true hb
      refine s_forN 4 rfl (i_L (e_call h1 ss[y] (a_d (e_ixL (e_v 0 rfl rfl) (e_v 3 rfl rfl) (ats y _ hsy)) a_nil) trivial hk))
        (fun ds j ρ' => ∃ U' s4, ρ' = [.dat (.list (ss.map sD)), .dat (.int last), .dct A (uK U'), .dat (.int (y : Nat)), s4, .any, .any] ∧ U'.Nodup ∧ (∀ u ∈ U, u ∈ U') ∧ (∀ u ∈ U', u ∈ U ∨ u ∈ srcs ss[y]) ∧ ∀ a ∈ (srcs ss[y]).take j, a ∈ U') (fun ds _ => ⟨U, _, rfl, u1, fun _ h => h, fun _ h => .inl h, fun a h => by cases h⟩) ?_ ?_
      · rintro ds j d ρ' rfl hj ⟨U', s4, rfl, w1, w2, w3, w4⟩
        rw [List.getElem?_map] at hj
        cases hs : (srcs ss[y])[j]? with
        | none => rw [hs] at hj; cases hj
        | some a =>
          rw [hs] at hj
          cases hj
          have ham : a ∈ srcs ss[y] := List.mem_of_getElem? hs
          have hle : ∀ u ∈ U', u < ss.length := fun u hu => by
            rcases w3 u hu with h | h
            · have := u3 u h; omega
            · have := hd.src hsy u h; omega
          have hUl := nodup_lt w1 hle
          refine s_dput (v := .bl true) 2 rfl rfl (e_v 4 rfl rfl) e_bl (fun F w h => h.bl_inv) (by unfold uK; rw [List.length_map, sizeLine_eq]; omega) (s_nil ?_)
          show ∃ U' s4, _ = _ ∧ _
          rw [uK_put]
          refine ⟨_, _, rfl, ?_, fun u hu => ?_, fun u hu => ?_, fun b hb => ?_⟩
          · split
            · exact w1
            · rename_i hn
              rw [List.nodup_append]
              exact ⟨w1, by simp, fun x hx z hz e => hn (by rw [← List.mem_singleton.mp hz, ← e]; exact hx)⟩
          · split
            · exact w2 u hu
            · exact List.mem_append_left _ (w2 u hu)
          · split at hu
            · exact w3 u hu
            · rcases List.mem_append.mp hu with h | h
              · exact w3 u h
              · rw [List.mem_singleton.mp h]; exact .inr ham
          · rw [List.take_add_one, hs] at hb
            rcases List.mem_append.mp hb with h | h
            · split
              · exact w4 b h
              · exact List.mem_append_left _ (w4 b h)
            · have e : b = a := by simpa using h
              rw [e]
              split
              · assumption
              · exact List.mem_append_right _ (List.mem_singleton.mpr rfl)
      · rintro ds ρ' rfl ⟨U', s4, rfl, w1, w2, w3, w4⟩
        rw [List.length_map, List.take_length] at w4
        refine s_nil (s_nil ⟨U', _, _, rfl, w1, w2 _ u2, fun u hu => ?_, fun z hz hlt s hs a ha => ?_⟩)
        · rcases w3 u hu with h | h
          · exact u3 u h
          · have := hd.src hsy u h; omega
        · by_cases e : z = y
          · subst e
            rw [hsy] at hs
            cases hs
            exact w4 a ha
          · rcases w3 z hz with h | h
            · exact w2 a (u4 z h (by omega) s hs a ha)
            · have := hd.src hsy z h; omega
    · by_cases e : z = y
      · subst e
        have := of_decide_eq_false hb
        exact absurd hz this
      · exact u4 z hz (by omega) s hs a ha
  · rintro ds ρ' rfl ⟨U, s3, s4, rfl, u1, u2, u3, u4⟩
    rw [List.length_map, List.length_range] at u4
    have hUl := nodup_lt u1 (m := last + 1) fun u hu => by have := u3 u hu; omega
    -- the sorted keys
    obtain ⟨ys, hys, hysm⟩ : ∃ ys : List Nat, sortI (U.map fun u : Nat => (u : Int)) = ys.map (fun u : Nat => (u : Int)) ∧ ∀ u, u ∈ ys ↔ u ∈ U := by
      refine ⟨(sortI (U.map fun u : Nat => (u : Int))).map Int.toNat, ?_, fun u => ?_⟩
      · rw [List.map_map]
        conv => lhs; rw [← List.map_id (sortI _)]
        apply List.map_congr_left
        intro x hx
        obtain ⟨u, _, rfl⟩ := List.mem_map.mp (sortI_mem.mp hx)
        simp
      · rw [List.mem_map]
        constructor
        · rintro ⟨x, hx, rfl⟩
          obtain ⟨u, hu, rfl⟩ := List.mem_map.mp (sortI_mem.mp hx)
          simpa using hu
        · intro hu
          exact ⟨(u : Int), sortI_mem.mpr (List.mem_map_of_mem hu), by simp⟩
    have hlt : ys.Pairwise (· < ·) := by
      have hnd : (U.map fun u : Nat => (u : Int)).Nodup := by
        rw [List.nodup_iff_pairwise_ne, List.pairwise_map]
        exact (List.nodup_iff_pairwise_ne.mp u1).imp fun h e => h (by omega)
      have := sortI_lt hnd
      rw [hys, List.pairwise_map] at this
      exact this.imp fun h => by omega
    have K : Keep ss last ys := ⟨hlt, (hysm _).mpr u2, fun y hy => u3 y ((hysm y).mp hy), fun y hy s hs a ha => (hysm a).mpr (u4 y ((hysm y).mp hy) (by omega) s hs a ha)⟩
    have hyn : ys.Nodup := hlt.imp fun h => Nat.ne_of_lt h
    have hyl : ∀ y ∈ ys, y < ss.length := fun y hy => by have := K.le y hy; omega
    have hylen := nodup_lt hyn hyl
    refine s_dnew 5 rfl fun A2 => s_new 6 rfl fun B => s_forN 3 rfl (i_L (ds := ys.map fun u : Nat => .int (u : Nat)) (DE.to (e_sortD (A := A) (kvs := uK U) (ns := U.map fun u : Nat => (u : Int)) 2 rfl rfl (by unfold uK; rw [List.map_map, List.map_map]; rfl) (by rw [List.length_map]; omega)) (by rw [hys, List.map_map]; rfl)))
      (fun ds m ρ' => ∃ s3 s4, ρ' = [.dat (.list (ss.map sD)), .dat (.int last), .dct A (uK U), s3, s4, .dct A2 (pK (ys.take m)), .own B (fun z => z = ((prune ss ys).take m).map sD)]) (fun ds _ => ⟨_, _, rfl⟩) ?_ ?_
    · rintro ds m d ρ' rfl hm ⟨s3, s4, rfl⟩
      rw [List.getElem?_map] at hm
      cases hy : ys[m]? with
      | none => rw [hy] at hm; cases hm
      | some y =>
        rw [hy] at hm
        cases hm
        obtain ⟨hml, ey⟩ := List.getElem?_eq_some_iff.mp hy
        have hym := List.mem_of_getElem? hy
        have hyS := hyl y hym
        have hsy : ss[y]? = some ss[y] := List.getElem?_eq_getElem hyS
        have htk : ys.take (m + 1) = ys.take m ++ [y] := by rw [List.take_add_one, hy]; rfl
        have hnot : y ∉ ys.take m := fun h => by
          obtain ⟨j, hj, ej⟩ := List.mem_take_iff_getElem.mp h
          have := List.pairwise_iff_getElem.mp hlt j m (by omega) hml (by omega)
          omega
        have hpl : (prune ss ys).length = ys.length := by unfold prune; rw [List.length_map]
        have hput : putK (pK (ys.take m)) (.inl (y : Int)) (.int (m : Nat)) = pK (ys.take (m + 1)) := by
          have := pK_put hnot
          rw [List.length_take, Nat.min_eq_left (by omega)] at this
          rw [this, htk]
        refine s_dput (v := .int (m : Nat)) 5 rfl rfl (e_v 3 rfl rfl) (DE.to (e_lenO 6 rfl rfl) (by rw [List.length_map, List.length_take, hpl, Nat.min_eq_left (by omega)])) (fun F w h => h.int_inv) (by rw [pK_len, List.length_take, sizeLine_eq]; omega) ?_
        rw [hput]
        refine s_appP (Pa := fun d => d = sD (mv (fun a => ys.idxOf a) ss[y])) 6 rfl rfl (e_callK h2 ⟨A2, pK (ys.take (m + 1)), ss[y], fun a => ys.idxOf a⟩ (a_d (e_ixL (e_v 0 rfl rfl) (e_v 3 rfl rfl) (ats y _ hsy)) (a_o 5 rfl rfl rfl a_nil)) (fun a ha => ?_) ?_ ?_ hk) (by rw [List.length_map, List.length_take, sizeLine_eq]; omega) ?_
        · have ham := K.cl y hym _ hsy a ha
          have hay := hd.src hsy a ha
          have hidx := idxOf_lt hlt hml ham (by rw [ey]; exact hay)
          have hin : a ∈ ys.take (m + 1) := by
            have hl := List.idxOf_lt_length_of_mem ham
            exact List.mem_take_iff_getElem.mpr ⟨ys.idxOf a, by omega, List.getElem_idxOf hl⟩
          show valV (pK (ys.take (m + 1))) (.inl (a : Int)) = some (.int (ys.idxOf a : Nat))
          rw [pK_get, if_pos hin]
          have e : (ys.take (m + 1)).idxOf a = ys.idxOf a := by
            conv => rhs; rw [← List.take_append_drop (m + 1) ys]
            rw [List.idxOf_append, if_pos hin]
          rw [e]
        · intro i j s t a e1 e2 a1 a2
          have one : ∀ (i : Nat) (s : Sl), [Sl.dat (sD ss[y]), .dct A2 (pK (ys.take (m + 1)))][i]? = some s → s.adr = some a → i = 1 := fun i s e h => by
            match i, e with
            | 0, e => cases e; cases h
            | 1, e => rfl
          rw [one i s e1 a1, one j t e2 a2]
        · intro s hs e
          rcases List.mem_cons.mp hs with rfl | hs
          · exact absurd rfl e
          · rw [List.mem_singleton.mp hs]; exact List.mem_of_getElem? (i := 5) rfl
        · rintro _ rfl
          refine s_nil ?_
          show ∃ s3 s4, _ = _
          have hpm : (prune ss ys)[m]? = some (mv (fun a => ys.idxOf a) ss[y]) := by
            unfold prune
            rw [List.getElem?_map, hy, Option.map_some, getD_get hyS]
          rw [List.take_add_one (l := prune ss ys), hpm, Option.toList_some, List.map_append]
          exact ⟨_, _, rfl⟩
    · rintro ds ρ' rfl ⟨s3, s4, rfl⟩
      rw [List.length_map, List.take_length]
      have hpl : (prune ss ys).length = ys.length := by unfold prune; rw [List.length_map]
      rw [← hpl, List.take_length]
      refine s_frz 6 rfl (s_ret (e_tupL (e_v 6 rfl rfl)) ⟨prune_der hd hl K, fun s hs => ?_⟩)
      rcases List.mem_cons.mp hs with rfl | hs
      · exact .inl ⟨_, rfl⟩
      · exact .inl ⟨_, List.mem_singleton.mp hs⟩
end
end Rb
/-! objects: fields, methods, what __init__ lays -/
namespace Rb
open PySem PySem.Spec L2
section
variable {X : Cx} {ρ : List Sl} {sc : Scope} {N : List Str} {k : Nat} {a b c e o : Expr} {es rest : List Expr} {sts : List Stmt} {pos p p1 p2 apos : Pos} {x m f : Str} {A C : Addr} {fs : List (Str × PyData)} {Pt : Out → Prop} {d : PyData}
theorem FldOk.get {F : Hp} {vs : List (Str × V)} {f : Str} {d : PyData} (h : FldOk F vs f d) (hn : noDict d = true) : ∃ v, vs.lookup f = some v ∧ Is F v d := by
  cases d with
  | dict _ => cases hn
  | none => exact h
  | bool _ => exact h
  | int _ => exact h
  | str _ => exact h
  | list _ => exact h
  | tuple _ => exact h
theorem FldOk.of {F : Hp} {vs : List (Str × V)} {f : Str} {d : PyData} {v : V} (h : vs.lookup f = some v) (i : Is F v d) : FldOk F vs f d := by
  cases d with
  | dict _ => exact (i.2 : False).elim
  | none => exact ⟨v, h, i⟩
  | bool _ => exact ⟨v, h, i⟩
  | int _ => exact ⟨v, h, i⟩
  | str _ => exact ⟨v, h, i⟩
  | list _ => exact ⟨v, h, i⟩
  | tuple _ => exact ⟨v, h, i⟩
theorem obj_adr {H0 F H : Hp} {σ : St} (r : Rep H0 ρ σ F H) {n : Nat} (h : ρ[n]? = some (.obj A C fs)) : σ[n]? = some (some (.ref A)) ∧ ∃ dx vs, H A = some (.ins C dx vs) ∧ ∀ f d, fs.lookup f = some d → FldOk F vs f d := by
  obtain ⟨x, q1, rfl, q2⟩ := r.ok n _ h
  exact ⟨q1, q2⟩
/-- self.f -/
theorem e_fld [fx : Fx X sc N k] (n : Nat) (hN : N[n]? = some x) (hρ : ρ[n]? = some (.obj A C fs)) (hc : Cls X.K C) (hna : NoAttr X.K C f) (hf : fs.lookup f = some d) (hd : noDict d = true := by rfl) (hv : visB sc x = true := by decide +kernel) (hb : attributeBase (.Name x p) f X.env (eval (.Name x p) X.env) = eval (.Name x p) X.env := by rfl) : DE X ρ (.Attribute (.Name x p) f pos) d := by
  obtain ⟨h1, h2, h3⟩ := vis_of (X := X) fx.hsc hv
  refine PE.weak (pe_fld (pe_var (i := n) (by rw [fx.hN]; exact hN) h1 h2 h3) hb) fun σ H Q ⟨F0, H0, F, g, r, q⟩ => ⟨_, (obj_adr r hρ).1, ?_⟩
  obtain ⟨_, dx, vs, e1, e2⟩ := obj_adr r hρ
  obtain ⟨v, l, i⟩ := (e2 f d hf).get hd
  exact ⟨A, C, dx, vs, v, rfl, e1, hc, hna, l, q v d F H rfl g (Same.refl _) r i⟩
/-- the promise of a method -/
structure Met (P : Program) (w : World) (K : PySem.W.Frag) (mg : Str → Option Value) (base : Heap) (k : Nat) (C : Addr) (m : Str) (sp : Sp) : Prop where
  ex : ∃ (f : Addr) (fd : FuncData) (ps : List Str), Cls K C ∧ Meth K C m f ∧ FnOk P w K mg base CX0 k f fd ps sp ∧ Binds K fd ps []
abbrev Ms (X : Cx) (k : Nat) (C : Addr) (m : Str) (sp : Sp) : Prop := Met X.prog X.w X.K X.mg X.base k C m sp
/-- o.m(..), o an object that stands -/
theorem e_meth [fx : Fx X sc N k] {pl : Sem Bool} {T : Type} {ar : T → List PyData} {ad : T → Addr} {fs' : T → List (Str × PyData)} {pre : T → Prop} {R : T → PyData → Prop} {j : Nat} {Pr : PyData → Prop} (n : Nat) (hN : N[n]? = some x) (hρ : ρ[n]? = some (.obj A C fs)) (h : Ms X j C m (spK (fun t : T => .obj (ad t) C (fs' t) :: (ar t).map .dat) pre R)) (t : T) (had : ad t = A) (hfs : fs' t = fs) (hm : fs.lookup m = some (.dict []))
    (ha : DA X ρ (a :: rest) (fun as => as = (ar t).map .dat)) (hp : pre t) (hj : j ≤ k) (hR : ∀ d, R t d → Pr d) (hv : visB sc x = true := by decide +kernel)
    (hst : starEach (a :: rest) X.env = (false, eval a X.env) :: starEach rest X.env := by rfl) (hpl : (backTo pos (starEach rest X.env)).any (·.1) = false := by rfl)
    (ht : eval (.Call (.Attribute (.Name x p) m apos) (a :: rest) [] pos) X.env = (do
      let ov ← eval (.Name x p) X.env
      standAt apos.atName
      let (f, first) ← holding [ov] (getMethod ov m pl)
      callWith pos f first (backTo pos (starEach (a :: rest) X.env)) (backToKw pos (keywordEach [] X.env))) := by rfl) :
    DP X ρ (.Call (.Attribute (.Name x p) m apos) (a :: rest) [] pos) Pr := by
  obtain ⟨h1, h2, h3⟩ := vis_of (X := X) fx.hsc hv
  subst had
  obtain ⟨mf, mfd, mps, mc, mm, mF, mb⟩ := h.ex
  refine PE.weak (pe_meth (pl := pl) (pe_var (i := n) (by rw [fx.hN]; exact hN) h1 h2 h3) mc mm mF (fx.room.mono hj) mb (.nil : Vals [] []) pass0 ha hst hpl ht) fun σ H Q ⟨F0, H0, F, g, r, q⟩ => ⟨_, (obj_adr r hρ).1, ?_⟩
  obtain ⟨w0, dx, vs, e1, e2⟩ := obj_adr r hρ
  refine ⟨ad t, dx, vs, rfl, e1, e2 m _ hm, F0, H0, F, g, r, fun us as F1 H1 p1 g1 s1 r1 i1 => ?_⟩
  subst p1
  rw [List.append_nil]
  obtain ⟨_, dx1, vs1, f1, f2⟩ := obj_adr r1 hρ
  have iall : ArOk H0 F1 H1 (.ref (ad t) :: us) (.obj (ad t) C (fs' t) :: (ar t).map .dat) := .cons ⟨rfl, dx1, vs1, f1, by rw [hfs]; exact f2⟩ i1
  have hadr : ∀ s ∈ (Sl.obj (ad t) C (fs' t) :: (ar t).map .dat), s.adr = none := fun s hs => by
    rcases List.mem_cons.mp hs with rfl | hs
    · rfl
    · obtain ⟨y, _, rfl⟩ := List.mem_map.mp hs; rfl
  refine ⟨t, F1, Rb.del H1 (.obj (ad t) C (fs' t) :: (ar t).map .dat), F1, hp, Gw.del g1.fh (fun s hs a e => by rw [hadr s hs] at e; cases e), arOk_del (fun s hs => hs) iall, fun i j s t a e1 e2 a1 a2 => (by rw [hadr s (List.mem_of_getElem? e1)] at a1; cases a1), fun v d F' H' hr gg ss hmm is => ?_⟩
  obtain ⟨gN, rN⟩ := after_call (as' := []) g1 r1 iall gg hmm (fun s hs e => absurd (hadr s hs) e)
  exact q v d F' H' (hR d hr) gN (s1.trans gg.ff) rN is
/-! ### how a method keeps its promise -/
/-- where the method m of C stands -/
structure AtM (K : PySem.W.Frag) (C : Addr) (m qual : Str) (st : Stmt) : Prop where
  ex : ∃ (f : Addr) (fd : FuncData), Cls K C ∧ Meth K C m f ∧ Fun K m qual st f fd
theorem met_of {P : Program} {w : World} {K : PySem.W.Frag} {mg : Str → Option Value} {base : Heap} {C : Addr} {m qual : Str} {st : Stmt} {N ps : List Str} {k : Nat} {sp : Sp} (hf : AtM K C m qual st) (S : FnScope N ps (defScope st)) (hbn : ∀ x ∈ BN, mg x = none)
    (hb : ∀ (kV doc pm : Value) (an : Option Addr) (cdv ct : Value) (us : List Value), us.length = ps.length → bindArgs (PySem.W.fnOf m qual (defArgs st) (defBody st) (defScope st) .none kV doc pm an cdv ct) ⟨us, []⟩ = pure (ps.zip us)) (len : ∀ vs H Q E, sp vs H Q E → vs.length = ps.length)
    (body : ∀ X : Cx, Ctx P w K mg base X → Fx X (defScope st) N k → Fl X → ∀ vs H Q E, sp vs H Q E → ∃ t, PSs X (defBody st) t ∧ t { nx := fun _ H' => Q .non H', rt := Q } (L2.start N vs) H) : Met P w K mg base (k + 1) C m sp := by
  obtain ⟨f, fd, hc, hm, F⟩ := hf.ex
  refine ⟨f, fd, ps, hc, hm, F.ok S len (fun cdv A outer s H vs Q E hr h => ?_), F.binds hb⟩
  have fx : Fx (cxOf CX0 P w K mg base N qual (defScope st) f cdv A outer s H E).nox (defScope st) N k := ⟨rfl, S.nd, rfl, S.kind, rfl, hr, hbn, rfl⟩
  have fl : Fl (cxOf CX0 P w K mg base N qual (defScope st) f cdv A outer s H E).nox := ⟨fun _ => rfl⟩
  exact body _ ⟨rfl, rfl, rfl, rfl, rfl⟩ fx fl vs H Q E h
/-- a method that only reads -/
theorem met_k {P : Program} {w : World} {K : PySem.W.Frag} {mg : Str → Option Value} {base : Heap} {C : Addr} {m qual : Str} {st : Stmt} {N ps : List Str} {k : Nat} {T : Type} {ar : T → List Sl} {pre : T → Prop} {R : T → PyData → Prop} (hf : AtM K C m qual st) (S : FnScope N ps (defScope st)) (hbn : ∀ x ∈ BN, mg x = none)
    (hb : ∀ (kV doc pm : Value) (an : Option Addr) (cdv ct : Value) (us : List Value), us.length = ps.length → bindArgs (PySem.W.fnOf m qual (defArgs st) (defBody st) (defScope st) .none kV doc pm an cdv ct) ⟨us, []⟩ = pure (ps.zip us)) (hl : ∀ t, (ar t).length = ps.length)
    (body : ∀ X : Cx, Ctx P w K mg base X → Fx X (defScope st) N k → Fl X → ∀ t, pre t → DS X (ar t ++ List.replicate (N.length - (ar t).length) .any) (defBody st) (EndK (ar t) (R t))) : Met P w K mg base (k + 1) C m (spK ar pre R) := by
  refine met_of hf S hbn hb (fun vs H Q E h => ?_) fun X hX fx fl vs H Q E h => ?_
  · obtain ⟨t, F0, H0, F', hp, g, ha, _⟩ := h
    rw [← hl t]
    exact Paired.length ha
  · obtain ⟨t, F0, H0, F', hp, g, ha, hap, q⟩ := h
    refine ⟨_, body X hX fx fl t hp, F0, H0, F', g, rep_start ha hap, fun o ho => ?_⟩
    have mutR : ∀ {ρ : List Sl} {σ : St} {F2 H2 : Hp}, Rep H0 ρ σ F2 H2 → (∀ s ∈ ar t, (∃ d, s = .dat d) ∨ s ∈ ρ) → ∀ s ∈ ar t, MutOk H0 F2 H2 s := fun {ρ σ F2 H2} r2 h s hs => by
      rcases h s hs with ⟨d, rfl⟩ | hm
      · trivial
      · obtain ⟨n, hn, en⟩ := List.getElem_of_mem hm
        exact SlOk.rep r2 (by rw [List.getElem?_eq_getElem hn, en])
    cases o with
    | nx ρ' => exact fun σ' F2 H2 g2 s2 r2 => q .non .none F2 H2 ho.1 g2 s2 (mutR r2 ho.2) is_non
    | rt d ρ' => exact fun v σ' F2 H2 g2 s2 r2 i2 => q v d F2 H2 ho.1 g2 s2 (mutR r2 ho.2) i2
    | ro P' ρ' => exact ho.elim
/-! ### in __init__ -/
structure InSt (ρ : List Sl) (C : Addr) (fs : List (Str × PyData)) (x dx : Addr) (vs : List (Str × V)) (F : Hp) (σ : St) (H : Hp) : Prop where
  fh : Same F H
  fx : F x = none
  slf : σ[0]? = some (some (.ref x))
  ins : H x = some (.ins C dx vs)
  few : vs.length ≤ fs.length
  flds : ∀ f d, fs.lookup f = some d → FldOk F vs f d
  rep : Rep H (.obj x C fs :: ρ) σ F H
structure Ext (x : Addr) (F H F' H' : Hp) : Prop where
  ff : Same F F'
  hh : ∀ b o, H b = some o → b ≠ x → H' b = some o
  nw : ∀ b o, F' b = some o → F b = some o ∨ H b = none
theorem Ext.trans {x : Addr} {F H F' H' F2 H2 : Hp} (a : Ext x F H F' H') (b : Ext x F' H' F2 H2) (hx : ∃ o, H' x = some o) : Ext x F H F2 H2 :=
  ⟨a.ff.trans b.ff, fun q o e hq => b.hh q o (a.hh q o e hq) hq, fun q o e => by
    rcases b.nw q o e with h | h
    · exact a.nw q o h
    · refine .inr ?_
      cases e2 : H q with
      | none => rfl
      | some u =>
        by_cases hq : q = x
        · obtain ⟨o', ho'⟩ := hx
          rw [hq, ho'] at h
          cases h
        · rw [a.hh q u e2 hq] at h
          cases h⟩
/-- slots that are plain, or objects that stand -/
theorem Rep.plains {H0 H1 F H F' H' : Hp} {σ : St} (r : Rep H0 ρ σ F H) (hp : ∀ s ∈ ρ, s.plain = true) (e : Same F F') : Rep H1 ρ σ F' H' := by
  refine ⟨r.len, fun i s es => ?_, fun i j s t a e1 e2 a1 a2 => ?_⟩
  · obtain ⟨x, q1, q2⟩ := r.ok i s es
    have h := hp s (List.mem_of_getElem? es)
    refine ⟨x, q1, ?_⟩
    cases s with
    | any => trivial
    | dat d => obtain ⟨v, e1, e2⟩ := q2; exact ⟨v, e1, e2.mono e⟩
    | own b P => cases h
    | dct b kvs => cases h
    | obj b C fs => cases h
  · have h := hp s (List.mem_of_getElem? e1)
    cases s with
    | any => cases a1
    | dat d => cases a1
    | own b P => cases h
    | dct b kvs => cases h
    | obj b C fs => cases h
theorem Rep.withObj {H0 H1 F H F' H' : Hp} {σ : St} {y C : Addr} {fs fs' : List (Str × PyData)} (r : Rep H0 (.obj y C fs :: ρ) σ F H) (hp : ∀ s ∈ ρ, s.plain = true) (e : Same F F') {dx : Addr} {vs : List (Str × V)} (hi : H' y = some (.ins C dx vs)) (hf : ∀ f d, fs'.lookup f = some d → FldOk F' vs f d) : Rep H1 (.obj y C fs' :: ρ) σ F' H' := by
  have hob := r.ok 0 _ rfl
  obtain ⟨x0, q1, q2⟩ := hob
  refine ⟨r.len, fun i s es => ?_, fun i j s t a e1 e2 a1 a2 => ?_⟩
  · cases i with
    | zero =>
      have es' : Sl.obj y C fs' = s := Option.some.inj es
      subst es'
      exact ⟨x0, q1, q2.1, dx, vs, hi, hf⟩
    | succ i =>
      obtain ⟨x, q1, q2⟩ := r.ok (i + 1) s (by simpa using es)
      have h := hp s (List.mem_of_getElem? (by simpa using es))
      refine ⟨x, q1, ?_⟩
      cases s with
      | any => trivial
      | dat d => obtain ⟨v, e1, e2⟩ := q2; exact ⟨v, e1, e2.mono e⟩
      | own b P => cases h
      | dct b kvs => cases h
      | obj b C fs => cases h
  · have noadr : ∀ (i : Nat) (s : Sl), (Sl.obj y C fs' :: ρ)[i]? = some s → s.adr = none := fun i s es => by
      cases i with
      | zero =>
        have es' : Sl.obj y C fs' = s := Option.some.inj es
        subst es'
        rfl
      | succ i =>
        have h := hp s (List.mem_of_getElem? (by simpa using es))
        cases s with
        | any => rfl
        | dat d => rfl
        | own b P => cases h
        | dct b kvs => cases h
        | obj b C fs => cases h
    rw [noadr i s e1] at a1
    cases a1
/-- self.f = e -/
theorem f_set [fx : Fx X sc N k] {t' : TS} (hN : N[0]? = some x) (hp : ∀ s ∈ ρ, s.plain = true) (he : ∀ y, DE X (.obj y C fs :: ρ) e d) (hc : Cls X.K C) (hna : NoAttr X.K C f) (hz : fs.length < 900) (hr : PSs X sts t') (hv : visB sc x = true := by decide +kernel) (hs : swapsWith e (some (.Attribute (.Name x p1) f p2)) pos.line X.env = pure false := by rfl) :
    PSs X (.Assign [.Attribute (.Name x p1) f p2] e pos :: sts) (fun D σ H => ∃ y dx vs F, InSt ρ C fs y dx vs F σ H ∧ ∀ vs' F' H', InSt ρ C ((f, d) :: fs) y dx vs' F' σ H' → Ext y F H F' H' → t' D σ H') := by
  obtain ⟨h1, h2, h3⟩ := vis_of (X := X) fx.hsc hv
  have key : ∀ y, PSs X (.Assign [.Attribute (.Name x p1) f p2] e pos :: sts) (tSeq (sFld X.K (tVar 0) (tE (.obj y C fs :: ρ) (fun z => z = d)) f) t') := fun y => pss_cons (ps_fld (pe_var (i := 0) (by rw [fx.hN]; exact hN) h1 h2 h3) (he y) hs) hr
  refine ⟨fun pins s σ H D I ⟨y, dx, vs, F, st, q⟩ => (key y).run pins s σ H D I ?_⟩
  refine ⟨F, H, F, Gw.refl st.fh, st.rep, fun v d' F1 H1 pd g1 s1 r1 i1 => ⟨_, st.slf, y, C, dx, vs, rfl, g1.hh _ _ st.ins, hc, hna, by have := st.few; omega, ?_⟩⟩
  subst pd
  have f1y : F1 y = none := g1.stays st.fx st.ins
  have hfl : ∀ f' d', ((f, d') :: fs : List (Str × PyData)).lookup f' = some d' → True := fun _ _ _ => trivial
  have flds : ∀ f' z, (((f, d') :: fs : List (Str × PyData))).lookup f' = some z → FldOk F1 (putF f v vs) f' z := fun f' z hz => by
    rw [List.lookup_cons] at hz
    by_cases e : f' = f
    · subst e
      rw [beq_self_eq_true] at hz
      cases hz
      exact FldOk.of (by rw [lookup_putF, if_pos rfl]) i1
    · rw [show (f' == f) = false by simpa using e] at hz
      have := (st.flds f' z hz).mono s1
      cases z with
      | dict _ => show (putF f v vs).lookup f' = none; rw [lookup_putF, if_neg e]; exact this
      | none => obtain ⟨w, a, b⟩ := this; exact ⟨w, by rw [lookup_putF, if_neg e]; exact a, b⟩
      | bool _ => obtain ⟨w, a, b⟩ := this; exact ⟨w, by rw [lookup_putF, if_neg e]; exact a, b⟩
      | int _ => obtain ⟨w, a, b⟩ := this; exact ⟨w, by rw [lookup_putF, if_neg e]; exact a, b⟩
      | str _ => obtain ⟨w, a, b⟩ := this; exact ⟨w, by rw [lookup_putF, if_neg e]; exact a, b⟩
      | list _ => obtain ⟨w, a, b⟩ := this; exact ⟨w, by rw [lookup_putF, if_neg e]; exact a, b⟩
      | tuple _ => obtain ⟨w, a, b⟩ := this; exact ⟨w, by rw [lookup_putF, if_neg e]; exact a, b⟩
  have sF : Same F1 (upd H1 y (.ins C dx (putF f v vs))) := fun b u e => by rw [upd_ne (fun z => by rw [z, f1y] at e; cases e)]; exact g1.fh _ _ e
  exact q (putF f v vs) F1 _ ⟨sF, f1y, st.slf, upd_same, by have := length_putF f v vs; have := st.few; rw [List.length_cons]; omega, flds, st.rep.withObj hp s1 upd_same flds⟩ ⟨s1, fun b o e hb => by rw [upd_ne hb]; exact g1.hh _ _ e, g1.nw⟩
end
end Rb
/-! Sides, the rising interpolant -/
namespace Rb
open PySem PySem.Spec L2
/-- what __init__ promises: the fields -/
def spI {T : Type} (C : Addr) (ar : T → List PyData) (pre : T → Prop) (fs : T → List (Str × PyData)) : Sp := fun vs H Q _ => ∃ t y dx us F, vs = .ref y :: us ∧ pre t ∧ Same F H ∧ F y = none ∧ H y = some (.ins C dx []) ∧ ArOk H F H us ((ar t).map .dat) ∧
  ∀ F' H' vs', Same F' H' → F' y = none → Ext y F H F' H' → H' y = some (.ins C dx vs') → (∀ f d, (fs t).lookup f = some d → FldOk F' vs' f d) → Q .non H'
structure Mks (P : Program) (w : World) (K : PySem.W.Frag) (mg : Str → Option Value) (base : Heap) (k : Nat) (x : Str) (C : Addr) (sp : Sp) : Prop where
  ex : ∃ (f : Addr) (fd : FuncData) (ps : List Str), Mk K C f ∧ FnOk P w K mg base CX0 k f fd ps sp ∧ mg x = some (.ref C) ∧ Binds K fd ps []
abbrev Ks (X : Cx) (k : Nat) (x : Str) (C : Addr) (sp : Sp) : Prop := Mks X.prog X.w X.K X.mg X.base k x C sp
structure AtI (K : PySem.W.Frag) (mg : Str → Option Value) (x : Str) (C : Addr) (qual : Str) (st : Stmt) : Prop where
  ex : ∃ (f : Addr) (fd : FuncData), Mk K C f ∧ mg x = some (.ref C) ∧ Fun K "__init__" qual st f fd
theorem mks_of {P : Program} {w : World} {K : PySem.W.Frag} {mg : Str → Option Value} {base : Heap} {x : Str} {C : Addr} {qual : Str} {st : Stmt} {N ps : List Str} {k : Nat} {sp : Sp} (hf : AtI K mg x C qual st) (S : FnScope N ps (defScope st)) (hbn : ∀ x ∈ BN, mg x = none)
    (hb : ∀ (kV doc pm : Value) (an : Option Addr) (cdv ct : Value) (us : List Value), us.length = ps.length → bindArgs (PySem.W.fnOf "__init__" qual (defArgs st) (defBody st) (defScope st) .none kV doc pm an cdv ct) ⟨us, []⟩ = pure (ps.zip us)) (len : ∀ vs H Q E, sp vs H Q E → vs.length = ps.length)
    (body : ∀ X : Cx, Ctx P w K mg base X → Fx X (defScope st) N k → Fl X → ∀ vs H Q E, sp vs H Q E → ∃ t, PSs X (defBody st) t ∧ t { nx := fun _ H' => Q .non H', rt := Q } (L2.start N vs) H) : Mks P w K mg base (k + 1) x C sp := by
  obtain ⟨f, fd, hm, hg, F⟩ := hf.ex
  refine ⟨f, fd, ps, hm, F.ok S len (fun cdv A outer s H vs Q E hr h => ?_), hg, F.binds hb⟩
  have fx : Fx (cxOf CX0 P w K mg base N qual (defScope st) f cdv A outer s H E).nox (defScope st) N k := ⟨rfl, S.nd, rfl, S.kind, rfl, hr, hbn, rfl⟩
  have fl : Fl (cxOf CX0 P w K mg base N qual (defScope st) f cdv A outer s H E).nox := ⟨fun _ => rfl⟩
  exact body _ ⟨rfl, rfl, rfl, rfl, rfl⟩ fx fl vs H Q E h
theorem inst_start {T : Type} {C : Addr} {ar : T → List PyData} {t : T} {fs0 : List (Str × PyData)} {N : List Str} {y dx : Addr} {us : List V} {F H : Hp} (h1 : Same F H) (h2 : F y = none) (h3 : H y = some (.ins C dx [])) (h4 : ArOk H F H us ((ar t).map .dat)) (hm : ∀ f d, fs0.lookup f = some d → ∃ z, d = .dict z) :
    InSt ((ar t).map .dat ++ List.replicate (N.length - (1 + (ar t).length)) .any) C fs0 y dx [] F (L2.start N (.ref y :: us)) H := by
  have flds : ∀ f d, fs0.lookup f = some d → FldOk F [] f d := fun f d e => by obtain ⟨z, rfl⟩ := hm f d e; rfl
  have hap : Apart (.obj y C fs0 :: (ar t).map .dat) := fun i j s t' a e1 e2 a1 a2 => by
    have noadr : ∀ s ∈ (Sl.obj y C fs0 :: (ar t).map .dat), s.adr = none := fun s hs => by
      rcases List.mem_cons.mp hs with rfl | hs
      · rfl
      · obtain ⟨z, _, rfl⟩ := List.mem_map.mp hs; rfl
    rw [noadr s (List.mem_of_getElem? e1)] at a1
    cases a1
  have r := rep_start (N := N) (vs := .ref y :: us) (as := .obj y C fs0 :: (ar t).map .dat) (H0 := H) (F := F) (H := H) (.cons ⟨rfl, dx, [], h3, flds⟩ h4) hap
  refine ⟨h1, h2, rfl, h3, Nat.zero_le _, flds, ?_⟩
  have e : (.obj y C fs0 :: (ar t).map Sl.dat).length = 1 + (ar t).length := by rw [List.length_cons, List.length_map]; omega
  rw [e] at r
  exact r
section
variable {X : Cx} {ρ : List Sl} {sc : Scope} {N : List Str} {k : Nat} {a : Expr} {rest : List Expr} {sts : List Stmt} {pos p p1 p2 : Pos} {x c : Str} {C : Addr} {Pt : Out → Prop}
/-- x = C(..), an object that stands from then on -/
theorem s_mkO [fx : Fx X sc N k] [fl : Fl X] {T : Type} {ar : T → List PyData} {pre : T → Prop} {fs : T → List (Str × PyData)} {j : Nat} (n : Nat) (hN : N[n]? = some x) (h : Ks X j c C (spI C ar pre fs)) (t : T) (ha : DA X ρ (a :: rest) (fun as => as = (ar t).map .dat)) (hp : pre t) (hj : j + 1 ≤ k) (hr : ∀ A, DS X (ρ.set n (.obj A C (fs t))) sts Pt)
    (hlo : locB sc x = true := by decide +kernel) (hg : glB sc c = true := by decide +kernel) (he : starEach (a :: rest) X.env = (false, eval a X.env) :: starEach rest X.env := by rfl) (hpl : (backTo pos (starEach rest X.env)).any (·.1) = false := by rfl)
    (hs : swapsWith (.Call (.Name c p) (a :: rest) [] pos) (some (.Name x p1)) p2.line X.env = pure false := by rfl) : DS X ρ (.Assign [.Name x p1] (.Call (.Name c p) (a :: rest) [] pos) p2 :: sts) Pt := by
  obtain ⟨fa, fd, ps, h1, h2, h3, h4⟩ := h.ex
  obtain ⟨g1, g2⟩ := gl_of fx.hsc hg
  refine PSs.weak (pss_cons (ps_set (i := n) (by rw [fx.hN]; exact fx.nd) (by rw [fx.hN]; exact hN) (loc_of fx.hsc hlo) (pe_make h1 h2 (fx.room.mono hj) g1 h3 h4 (.nil : Vals [] []) pass0 ha g2 he hpl) hs (.inl (fl.fn _))) (ex_s (q := fun _ : Addr => True) (t := fun A => tS (ρ.set n (.obj A C (fs t))) Pt) fun A _ => hr A)) fun D σ H ⟨F0, H0, F, g, r, q⟩ => ?_
  refine ⟨F0, H0, F, g, r, fun vs as F1 H1 p1 g1 s1 r1 i1 y dx hy hdx hne => ?_⟩
  subst p1
  rw [List.append_nil]
  have sH : Same H1 (upd (upd H1 dx (.own y)) y (.ins C dx [])) := fun b o e => by
    rw [upd_ne (ne_of_none e hy), upd_ne (ne_of_none e hdx)]; exact e
  refine ⟨t, y, dx, vs, F1, rfl, hp, g1.fh.trans sH, g1.fh.free hy, upd_same, ?_, fun F' H' vs' s2 fy ex hins hfl => ?_⟩
  · have conv : ∀ {vs : List V} {ds : List PyData}, ArOk H0 F1 H1 vs (ds.map .dat) → ArOk (upd (upd H1 dx (.own y)) y (.ins C dx [])) F1 (upd (upd H1 dx (.own y)) y (.ins C dx [])) vs (ds.map .dat) := by
      intro vs ds
      induction ds generalizing vs with
      | nil => intro h; cases h; exact .nil
      | cons d ds ih =>
        intro h
        cases h with
        | cons h1 h2 => exact .cons h1 (ih h2)
    exact conv i1
  · have gw : Gw F1 H1 F' H' := ⟨fun b o e => ex.hh b o (sH b o e) (ne_of_none e hy), ex.ff, s2, fun b o e => by
      rcases ex.nw b o e with h | h
      · exact .inl h
      · exact .inr (sH.free h)⟩
    refine ⟨rfl, y, trivial, F0, H0, F', g1.trans gw, (r1.mono gw).set (s := .obj y C (fs t)) ⟨rfl, dx, vs', hins, hfl⟩ (fun a ea => by cases ea), fun o po => (q o po).mono (s1.trans gw.ff)⟩
end
/-! ### Sides -/
def fsSides (cs : List (List Int)) (div : List Int) : List (Str × PyData) := [("second", .list ((vars (sideC cs div 2)).map .int)), ("common", .list ((common cs div).map .int)), ("division", cD div), ("gate", .dict [])]
structure SdT where
  n : Nat
  cs : List (List Int)
  div : List Int
abbrev pSides (C : Addr) : Sp := spI (T := SdT) C (fun t => [fD t.n t.cs, cD t.div]) (fun t => Fm t.n t.cs) (fun t => fsSides t.cs t.div)
structure SidesOk (K : PySem.W.Frag) (C : Addr) : Prop where
  cls : Cls K C
  n1 : NoAttr K C "division"
  n2 : NoAttr K C "common"
  n3 : NoAttr K C "second"
structure GtT where
  A : Addr
  cs : List (List Int)
  div : List Int
  s : Stp
abbrev pGateM (C : Addr) : Sp := spK (fun t : GtT => .obj t.A C (fsSides t.cs t.div) :: [sD t.s].map .dat) (fun _ => True) (fun t d => d = gD (gateOf t.cs t.div t.s))
theorem dk1 {s : Str} {d : PyData} {r : List (Str × PyData)} : ((s, d) :: r).lookup s = some d := by rw [List.lookup_cons, beq_self_eq_true]
theorem dk2 {s s' : Str} {d : PyData} {r : List (Str × PyData)} (h : (s == s') = false) : ((s', d) :: r).lookup s = r.lookup s := by rw [List.lookup_cons, h]
section
variable {X : Cx} {k : Nat} {C : Addr}
theorem fs_div {cs : List (List Int)} {div : List Int} : (fsSides cs div).lookup ("division" : Str) = some (cD div) := by
  unfold fsSides
  rw [dk2 (by decide +kernel), dk2 (by decide +kernel), dk1]
theorem fs_com {cs : List (List Int)} {div : List Int} : (fsSides cs div).lookup ("common" : Str) = some (.list ((common cs div).map .int)) := by
  unfold fsSides
  rw [dk2 (by decide +kernel), dk1]
theorem fs_sec {cs : List (List Int)} {div : List Int} : (fsSides cs div).lookup ("second" : Str) = some (.list ((vars (sideC cs div 2)).map .int)) := by
  unfold fsSides
  rw [dk1]
theorem fs_gate {cs : List (List Int)} {div : List Int} : (fsSides cs div).lookup ("gate" : Str) = some (.dict []) := by
  unfold fsSides
  rw [dk2 (by decide +kernel), dk2 (by decide +kernel), dk2 (by decide +kernel), dk1]
theorem d_sgate (K : SidesOk X.K C) (t : GtT) [Fx X (defScope sM_Sides_gate) nM_Sides_gate k] [Fl X] : DS X [.obj t.A C (fsSides t.cs t.div), .dat (sD t.s), .any, .any, .any, .any] (defBody sM_Sides_gate) (EndK [.obj t.A C (fsSides t.cs t.div), .dat (sD t.s)] (fun d => d = gD (gateOf t.cs t.div t.s))) := by
  obtain ⟨A, cs, div, s⟩ := t
  simp only
  have keep : ∀ {ρ : List Sl}, Sl.obj A C (fsSides cs div) ∈ ρ → ∀ x ∈ [Sl.obj A C (fsSides cs div), .dat (sD s)], (∃ d, x = .dat d) ∨ x ∈ ρ := fun h x hx => by
    rcases List.mem_cons.mp hx with rfl | hx
    · exact .inr h
    · exact .inl ⟨_, List.mem_singleton.mp hx⟩
  cases s with
  | ax i =>
    refine s_ifTR (t_T (t_eqS (e_ixT (e_v 1 rfl rfl) e_int rfl) e_str) (by decide +kernel)) (s_ret (e_if (t_inT (ns := div) (e_ixT (e_v 1 rfl rfl) e_int rfl) (e_fld 0 rfl rfl K.cls K.n1 fs_div)) (fun _ => e_tup (ds := [.str "false"]) (a_d e_str a_nil)) (fun _ => e_tup (ds := [.str "true"]) (a_d e_str a_nil))) ⟨?_, keep List.mem_cons_self⟩)
    simp only [gateOf]
    split <;> rfl
  | wk a c => exact s_ifF0 (t_F (t_eqS (e_ixT (e_v 1 rfl rfl) e_int rfl) e_str) (by decide +kernel)) (s_ifTR (t_T (t_eqS (e_ixT (e_v 1 rfl rfl) e_int rfl) e_str) (by decide +kernel)) (s_ret (e_tup (ds := [.str "same", .int a]) (a_d e_str (a_d (e_ixT (e_v 1 rfl rfl) e_int rfl) a_nil))) ⟨rfl, keep List.mem_cons_self⟩))
  | res a b v =>
    refine s_ifF0 (t_F (t_eqS (e_ixT (e_v 1 rfl rfl) e_int rfl) e_str) (by decide +kernel)) (s_ifF0 (t_F (t_eqS (e_ixT (e_v 1 rfl rfl) e_int rfl) e_str) (by decide +kernel)) (s_unp4 2 3 4 5 rfl rfl rfl rfl (e_v 1 rfl rfl) (s_ifR (t_inL (ns := common cs div) (e_v 5 rfl rfl) (e_fld 0 rfl rfl K.cls K.n2 fs_com))
      (fun hb => s_ret (e_tup (ds := [.str "choose", .int v, .int a, .int b]) (a_d e_str (a_d (e_v 5 rfl rfl) (a_d (e_v 3 rfl rfl) (a_d (e_v 4 rfl rfl) a_nil))))) ⟨?_, keep List.mem_cons_self⟩)
      (fun hb => s_ret (e_if (t_inL (ns := vars (sideC cs div 2)) (e_v 5 rfl rfl) (e_fld 0 rfl rfl K.cls K.n3 fs_sec)) (fun _ => e_tup (ds := [.str "and", .int a, .int b]) (a_d e_str (a_d (e_v 3 rfl rfl) (a_d (e_v 4 rfl rfl) a_nil)))) (fun _ => e_tup (ds := [.str "or", .int a, .int b]) (a_d e_str (a_d (e_v 3 rfl rfl) (a_d (e_v 4 rfl rfl) a_nil))))) ⟨?_, keep List.mem_cons_self⟩))))
    · simp only [gateOf]; rw [if_pos hb]; rfl
    · have e : ¬ (decide ((v : Int) ∈ common cs div) = true) := by rw [hb]; exact Bool.false_ne_true
      simp only [gateOf]
      rw [if_neg e]
      split <;> rfl
theorem i_sides (K : SidesOk X.K C) [fx : Fx X (defScope sM_Sides_init) nM_Sides_init k] [Fl X] (hk : 2 ≤ k) (h1 : Hs X "side_formula" 1 pSide) (h2 : Hs X "variables_of" 1 pVars) (h3 : Hs X "common_variables" 2 pCommon) (vs : List V) (H : Hp) (Q : VK) (E : XK) (h : pSides C vs H Q E) : ∃ t, PSs X (defBody sM_Sides_init) t ∧ t { nx := fun _ H' => Q .non H', rt := Q } (L2.start nM_Sides_init vs) H := by
  obtain ⟨⟨n, cs, div⟩, y, dx, us, F, rfl, hf, a1, a2, a3, a4, q⟩ := h
  simp only at hf a4 q
  have hp : ∀ s ∈ [Sl.dat (fD n cs), .dat (cD div)], s.plain = true := fun s hs => by
    rcases List.mem_cons.mp hs with rfl | hs
    · rfl
    · rw [List.mem_singleton.mp hs]; rfl
  refine ⟨_, f_set (ρ := [.dat (fD n cs), .dat (cD div)]) (C := C) (fs := [("gate", .dict [])]) rfl hp (fun y => e_v 2 rfl rfl) K.cls K.n1 (Nat.le_of_ble_eq_true rfl) (f_set (fs := [("division", cD div), ("gate", .dict [])]) rfl hp (fun y => e_call h3 (n, cs, div) (a_d (e_v 1 rfl rfl) (a_d (e_v 2 rfl rfl) a_nil)) hf hk) K.cls K.n2 (Nat.le_of_ble_eq_true rfl) (f_set (fs := [("common", .list ((common cs div).map .int)), ("division", cD div), ("gate", .dict [])]) rfl hp (fun y => e_call h2 (n, sideC cs div 2) (a_d (e_call h1 (n, cs, div, 2) (a_d (e_v 1 rfl rfl) (a_d (e_v 2 rfl rfl) (a_d e_int a_nil))) trivial (by omega)) a_nil) hf.side (by omega)) K.cls K.n3 (Nat.le_of_ble_eq_true rfl) pss_nil)), ?_⟩
  have st0 : InSt [.dat (fD n cs), .dat (cD div)] C [("gate", .dict [])] y dx [] F (L2.start nM_Sides_init (.ref y :: us)) H := inst_start (T := Unit) (ar := fun _ => [fD n cs, cD div]) (t := ()) (N := nM_Sides_init) a1 a2 a3 a4 fun f d e => by
    by_cases hg : f = "gate"
    · subst hg; rw [dk1] at e; exact ⟨[], (Option.some.inj e).symm⟩
    · rw [dk2 (by simpa using hg)] at e; cases e
  refine ⟨y, dx, [], F, st0, fun vs1 F1 H1 st1 e1 => ⟨y, dx, vs1, F1, st1, fun vs2 F2 H2 st2 e2 => ⟨y, dx, vs2, F2, st2, fun vs3 F3 H3 st3 e3 => ?_⟩⟩⟩
  exact q F3 H3 vs3 st3.fh st3.fx ((e1.trans e2 ⟨_, st1.ins⟩).trans e3 ⟨_, st2.ins⟩) st3.ins st3.flds
/-! ### check_rising, rising_interpolant: the division is rising -/
theorem d_check (n : Nat) (cs : List (List Int)) (div : List Int) (h : Fm n cs) (hr : rising cs div = true) [Fx X (defScope sP_check_rising) nP_check_rising k] [Fl X] (hk : 3 ≤ k) (h1 : Hs X "is_rising" 3 pRising) : DS X [.dat (fD n cs), .dat (cD div)] (defBody sP_check_rising) (EndK ([fD n cs, cD div].map .dat) (fun d => d = .none)) :=
  s_ifF0 (t_F (t_not (t_val (e_call h1 (n, cs, div) (a_d (e_v 0 rfl rfl) (a_d (e_v 1 rfl rfl) a_nil)) h hk))) (by rw [hr]; rfl)) (s_nil ⟨rfl, fun s hs => by obtain ⟨y, _, rfl⟩ := List.mem_map.mp hs; exact .inl ⟨y, rfl⟩⟩)
abbrev pCheck : Sp := spP (T := Nat × List (List Int) × List Int) (fun p => [fD p.1 p.2.1, cD p.2.2]) (fun p => Fm p.1 p.2.1 ∧ rising p.2.1 p.2.2 = true) (fun _ => .none)
def gatesOf (cs : List (List Int)) (div : List Int) (ss : List Stp) : List Gt := ss.map fun s => needG (gateOf cs div s)
theorem d_interp (n : Nat) (cs : List (List Int)) (div : List Int) (ss : List Stp) (h : Fm n cs) (hr : rising cs div = true) [Fx X (defScope sP_rising_interpolant) nP_rising_interpolant k] [Fl X] (hk : 4 ≤ k) (h1 : Hs X "check_rising" 4 pCheck) (h2 : Ks X 3 "Sides" C (pSides C)) (h3 : Ms X 1 C "gate" (pGateM C)) (h4 : Hs X "rising_gate" 1 pGate) :
    DS X [.dat (fD n cs), .dat (cD div), .dat (.tuple (ss.map sD)), .any, .any] (defBody sP_rising_interpolant) (EndK ([fD n cs, cD div, .tuple (ss.map sD)].map .dat) (fun d => d = .tuple ((gatesOf cs div ss).map gD))) :=
  s_drop (e_call h1 (n, cs, div) (a_d (e_v 0 rfl rfl) (a_d (e_v 1 rfl rfl) a_nil)) ⟨h, hr⟩ hk) (s_mkO 3 rfl h2 ⟨n, cs, div⟩ (a_d (e_v 0 rfl rfl) (a_d (e_v 1 rfl rfl) a_nil)) h (by omega) fun A =>
    s_ret (e_tupL (DE.to (e_lc0 (enc := sD) (xs := ss) (g := fun s => gD (needG (gateOf cs div s))) 4 (i_T (e_v 2 rfl rfl)) rfl
      (fun s H C' cl fp y fx' hy => e_cb h4 (gateOf cs div y) (a_d (e_meth (X := Bk X s H _ C' cl fp) (Pr := fun z => z = gD (gateOf cs div y)) (ad := fun t : GtT => t.A) (fs' := fun t : GtT => fsSides t.cs t.div) (A := A) (C := C) 3 rfl rfl h3 ⟨A, cs, div, y⟩ rfl rfl fs_gate (a_d (e_v 4 rfl rfl) a_nil) trivial (by omega) (fun _ h => h)) a_nil) trivial (by omega))) (by unfold gatesOf; rw [List.map_map]; rfl))) (end_d rfl))
abbrev pInterp : Sp := spP (T := Nat × List (List Int) × List Int × List Stp) (fun p => [fD p.1 p.2.1, cD p.2.2.1, .tuple (p.2.2.2.map sD)]) (fun p => Fm p.1 p.2.1 ∧ rising p.2.1 p.2.2.1 = true) (fun p => .tuple ((gatesOf p.2.1 p.2.2.1 p.2.2.2).map gD))
end
end Rb
/-! the plain law of the kept clauses -/
namespace Rb
open PySem PySem.Spec L2
structure Mc where
  n : Nat
  cs : List (List Int)
  div : List Int
  ss : List Stp
  cls : List (List Int)
  cube : List Int
def Mc.gs (c : Mc) : List Gt := gatesOf c.cs c.div c.ss
def Mc.gv (c : Mc) : List Bool := gvals c.cube c.gs
def Mc.val (c : Mc) : Bool := (c.gv.getLast?).getD false
def Mc.side (c : Mc) : Int := if c.val then 2 else 1
def Mc.half (c : Mc) : List (List Int) := restr (sideC c.cs c.div c.side) c.cube
def Mc.C (c : Mc) (k : Nat) : List Int := c.cls.getD k []
structure Mc.Good (c : Mc) : Prop where
  fm : Fm c.n c.cs
  ris : rising c.cs c.div = true
  der : Der c.n c.cs c.ss c.cls
  last : c.cls.getLast? = some []
  few : c.ss.length ≤ 48
  cub : Cl c.n c.cube
  sub : ∀ l ∈ c.cube, absI l ∈ common c.cs c.div
  full : ∀ v ∈ common c.cs c.div, v ∈ c.cube ∨ -v ∈ c.cube
theorem resolv_inv {p q r : List Int} {v : Int} (h : resolv p q v = some r) : v ∈ p ∧ -v ∈ q ∧ r = ssI ((p.filter fun a => !decide (a = v)) ++ (q.filter fun b => !decide (b = -v))) ∧ ∀ l ∈ r, -l ∉ r := by
  unfold resolv at h
  split at h
  · rename_i hc
    rw [Bool.and_eq_true] at hc
    unfold made at h
    split at h
    · rename_i hm
      have e := Option.some.inj h
      refine ⟨of_decide_eq_true hc.1, of_decide_eq_true hc.2, e.symm, fun l hl hn => ?_⟩
      rw [← e, ssI_mem] at hl hn
      rw [List.isEmpty_iff, List.filter_eq_nil_iff] at hm
      exact hm l hl (decide_eq_true hn)
    · cases h
  · cases h
theorem fits_cl {n : Nat} {cs cls : List (List Int)} {s : Stp} {c : List Int} (hf : ∀ c ∈ cs, Cl n c) (hc : ∀ c ∈ cls, Cl n c) (h : Fits n cs cls s c) : Cl n c := by
  cases s with
  | ax i => exact hf c (List.mem_of_getElem? h)
  | wk a c' => obtain ⟨p, _, _, rfl, h2⟩ := h; exact h2
  | res a b v =>
    obtain ⟨p, q, h1, h2, _, _, _, hr, _⟩ := h
    obtain ⟨_, _, e, ht⟩ := resolv_inv hr
    have hp := hc p (List.mem_of_getElem? h1)
    have hq := hc q (List.mem_of_getElem? h2)
    refine ⟨by rw [e]; exact ssI_lt, fun l hl => ?_, ht⟩
    rw [e, res_mem] at hl
    rcases hl with ⟨a, _⟩ | ⟨a, _⟩
    · exact hp.2.1 l a
    · exact hq.2.1 l a
theorem Der.cl {n : Nat} {cs : List (List Int)} {ss : List Stp} {cls : List (List Int)} (hd : Der n cs ss cls) (hf : ∀ c ∈ cs, Cl n c) : ∀ c ∈ cls, Cl n c := by
  have key : ∀ m, m ≤ cls.length → ∀ c ∈ cls.take m, Cl n c := by
    intro m
    induction m with
    | zero => intro _ c hc; cases hc
    | succ m ih =>
      intro hm c hc
      have hml : m < ss.length := by rw [← hd.1]; omega
      obtain ⟨c', h1, h2⟩ := hd.2 m _ (List.getElem?_eq_getElem hml)
      rw [List.take_add_one, h1, Option.toList_some] at hc
      rcases List.mem_append.mp hc with h | h
      · exact ih (by omega) c h
      · rw [List.mem_singleton.mp h]; exact fits_cl hf (ih (by omega)) h2
  have := key cls.length (Nat.le_refl _)
  rwa [List.take_length] at this
section
variable {c : Mc}
theorem Mc.Good.cl (g : c.Good) : ∀ x ∈ c.cls, Cl c.n x := g.der.cl g.fm.2.2
theorem Mc.Good.clk (g : c.Good) (k : Nat) : Cl c.n (c.C k) := by
  unfold Mc.C
  by_cases h : k < c.cls.length
  · rw [getD_get h]; exact g.cl _ (List.getElem_mem _)
  · rw [List.getD_eq_getElem?_getD, List.getElem?_eq_none (by omega)]
    exact ⟨.nil, (fun _ h => by cases h), (fun _ h => by cases h)⟩
/-- what a step's clause is -/
theorem Mc.Good.at (g : c.Good) {k : Nat} {s : Stp} (h : c.ss[k]? = some s) : match s with
    | .ax i => c.cs[i]? = some (c.C k)
    | .wk a x => a < k ∧ ∀ l ∈ c.C a, l ∈ c.C k
    | .res a b v => a < k ∧ b < k ∧ 1 ≤ v ∧ v ≤ c.n ∧ resolv (c.C a) (c.C b) v = some (c.C k) := by
  obtain ⟨x, h1, h2⟩ := g.der.2 k s h
  have hx : c.C k = x := by unfold Mc.C; rw [List.getD_eq_getElem?_getD, h1]; rfl
  have get : ∀ {a : Nat} {p : List Int}, (c.cls.take k)[a]? = some p → a < k ∧ c.C a = p := fun {a p} e => by
    have hl := (List.getElem?_eq_some_iff.mp e).1
    rw [List.length_take] at hl
    refine ⟨by omega, ?_⟩
    rw [List.getElem?_take_of_lt (by omega)] at e
    unfold Mc.C
    rw [List.getD_eq_getElem?_getD, e]
    rfl
  rw [hx]
  cases s with
  | ax i => exact h2
  | wk a y =>
    obtain ⟨p, e1, e2, rfl, _⟩ := h2
    obtain ⟨l1, l2⟩ := get e1
    exact ⟨l1, by rw [l2]; exact e2⟩
  | res a b v =>
    obtain ⟨p, q, e1, e2, v1, hv, _, hr, _⟩ := h2
    obtain ⟨l1, l2⟩ := get e1
    obtain ⟨m1, m2⟩ := get e2
    refine ⟨l1, m1, v1, ?_, by rw [l2, m2]; exact hr⟩
    have := (g.clk a).2.1 (v : Int) (by rw [l2]; exact hv)
    omega
theorem gs_get {k : Nat} {s : Stp} (h : c.ss[k]? = some s) : c.gs[k]? = some (needG (gateOf c.cs c.div s)) := by
  unfold Mc.gs gatesOf
  rw [List.getElem?_map, h]
  rfl
theorem Mc.Good.gsok (g : c.Good) : GsOk c.gs := fun k gt hg => by
  unfold Mc.gs gatesOf at hg
  rw [List.getElem?_map] at hg
  cases hs : c.ss[k]? with
  | none => rw [hs] at hg; cases hg
  | some s =>
    rw [hs] at hg
    have e : gt = needG (gateOf c.cs c.div s) := (Option.some.inj hg).symm
    have ha := g.at hs
    subst e
    cases s with
    | ax i => simp only [gateOf]; split <;> exact ⟨trivial, fun _ _ _ h => by cases h⟩
    | wk a x => exact ⟨ha.1, fun _ _ _ h => by cases h⟩
    | res a b v =>
      obtain ⟨h1, h2, _⟩ := ha
      simp only [gateOf]
      split
      · exact ⟨⟨h1, h2⟩, fun _ _ _ h => by cases h⟩
      · split
        · exact ⟨⟨h1, h2⟩, fun _ _ _ h => by cases h⟩
        · exact ⟨⟨h1, h2⟩, fun _ _ _ h => by cases h⟩
theorem gvals_take (cube : List Int) (gs : List Gt) (m : Nat) : gvals cube (gs.take m) = (gvals cube gs).take m := by
  have key : ∀ j, j ≤ gs.length → ∀ m, m ≤ j → gvals cube (gs.take m) = (gvals cube (gs.take j)).take m := by
    intro j
    induction j with
    | zero => intro _ m hm; have : m = 0 := by omega
              subst this; rfl
    | succ j ih =>
      intro hj m hm
      have e : gs.take (j + 1) = gs.take j ++ [gs[j]] := by rw [List.take_add_one, List.getElem?_eq_getElem (by omega)]; rfl
      by_cases h : m = j + 1
      · subst h
        exact (List.take_of_length_le (by rw [gvals_len, List.length_take]; omega)).symm
      · rw [ih (by omega) m (by omega), e, gvals_app, List.take_append_of_le_length (by rw [gvals_len, List.length_take]; omega)]
  by_cases h : m ≤ gs.length
  · have := key gs.length (Nat.le_refl _) m h
    rwa [List.take_length] at this
  · rw [List.take_of_length_le (by omega), List.take_of_length_le (by rw [gvals_len]; omega)]
theorem gvals_at {cube : List Int} {gs : List Gt} {k : Nat} {g : Gt} (h : gs[k]? = some g) : (gvals cube gs)[k]? = some (gval ((gvals cube gs).take k) cube g) := by
  have hk := (List.getElem?_eq_some_iff.mp h).1
  have e : gs.take (k + 1) = gs.take k ++ [g] := by rw [List.take_add_one, h]; rfl
  have h1 := gvals_take cube gs (k + 1)
  rw [e, gvals_app, gvals_take] at h1
  have h2 : ((gvals cube gs).take (k + 1))[k]? = some (gval ((gvals cube gs).take k) cube g) := by
    rw [← h1]
    have hl : ((gvals cube gs).take k).length = k := by rw [List.length_take, gvals_len]; omega
    rw [List.getElem?_append_right (by omega), hl, Nat.sub_self]
    rfl
  rwa [List.getElem?_take_of_lt (by omega)] at h2
theorem take_getD {f : List Bool} {a k : Nat} (h : a < k) : (f.take k).getD a false = f.getD a false := by
  rw [List.getD_eq_getElem?_getD, List.getD_eq_getElem?_getD, List.getElem?_take_of_lt h]
/-- a gate's value, by the values of its sources -/
theorem Mc.Good.gval (g : c.Good) {k : Nat} {s : Stp} (h : c.ss[k]? = some s) : c.gv.getD k false = Rb.gval c.gv c.cube (needG (gateOf c.cs c.div s)) := by
  have hg := gs_get h
  have h1 := gvals_at (cube := c.cube) hg
  have hok := (g.gsok k _ hg).1
  rw [List.getD_eq_getElem?_getD]
  unfold Mc.gv
  rw [h1]
  simp only [Option.getD_some]
  generalize needG (gateOf c.cs c.div s) = gt at hok
  cases gt with
  | ff => rfl
  | tt => rfl
  | same a => exact take_getD hok
  | or a b => simp only [Rb.gval]; rw [take_getD hok.1, take_getD hok.2]
  | and a b => simp only [Rb.gval]; rw [take_getD hok.1, take_getD hok.2]
  | need v a b => simp only [Rb.gval]; rw [take_getD hok.1, take_getD hok.2]
  | choose v a b => simp only [Rb.gval]; rw [take_getD hok.1, take_getD hok.2]
/-- a kept clause stands for step k -/
def Kept (c : Mc) (k : Nat) (x : List Int) : Prop := Cl c.n x ∧ ∀ l ∈ x, l ∈ c.C k ∧ l ∉ c.cube ∧ -l ∉ c.cube ∧ absI l ∈ vars (sideC c.cs c.div c.side)
/-- step k is visited -/
def Vis (c : Mc) (k : Nat) : Prop := k < c.ss.length ∧ c.gv.getD k false = c.val ∧ ∀ l ∈ c.C k, (c.val = true ∨ 0 < l) → l ∉ c.cube
theorem vars_mem {cs : List (List Int)} {v : Int} : v ∈ vars cs ↔ ∃ x ∈ cs, ∃ l ∈ x, absI l = v := by
  unfold vars
  rw [ssI_mem, List.mem_flatMap]
  constructor
  · rintro ⟨x, hx, hv⟩
    obtain ⟨l, hl, e⟩ := List.mem_map.mp hv
    exact ⟨x, hx, l, hl, e⟩
  · rintro ⟨x, hx, l, hl, e⟩
    exact ⟨x, hx, List.mem_map.mpr ⟨l, hl, e⟩⟩
theorem side_mem {cs : List (List Int)} {div : List Int} {s : Int} {x : List Int} : x ∈ sideC cs div s ↔ ∃ i : Nat, cs[i]? = some x ∧ (decide ((i : Int) ∈ div) = decide (s = 1)) := by
  unfold sideC
  rw [List.mem_map]
  constructor
  · rintro ⟨⟨y, i⟩, hp, rfl⟩
    obtain ⟨h1, h2⟩ := List.mem_filter.mp hp
    exact ⟨i, List.mem_zipIdx_iff_getElem?.mp h1, of_decide_eq_true h2⟩
  · rintro ⟨i, h1, h2⟩
    exact ⟨(x, i), List.mem_filter.mpr ⟨List.mem_zipIdx_iff_getElem?.mpr h1, decide_eq_true h2⟩, rfl⟩
theorem common_mem {cs : List (List Int)} {div : List Int} {v : Int} : v ∈ common cs div ↔ v ∈ vars (sideC cs div 1) ∧ v ∈ vars (sideC cs div 2) := by
  unfold common
  rw [List.mem_filter, decide_eq_true_iff]
theorem rising_no {cs : List (List Int)} {div : List Int} (h : rising cs div = true) {x : List Int} (hx : x ∈ sideC cs div 1) {l : Int} (hl : l ∈ x) : -l ∉ common cs div := fun hn => by
  unfold rising at h
  have := (List.all_eq_true.mp h) x hx
  rw [List.isEmpty_iff, List.filter_eq_nil_iff] at this
  exact this l hl (decide_eq_true hn)
theorem absI_abs (l : Int) : absI l = l ∨ absI l = -l := by unfold absI; split <;> omega
/-- over a common variable no kept clause says anything -/
theorem Kept.free (g : c.Good) {k : Nat} {x : List Int} (h : Kept c k x) {v : Int} (hv : v ∈ common c.cs c.div) : v ∉ x ∧ -v ∉ x := by
  rcases g.full v hv with q | q
  · exact ⟨fun hx => (h.2 v hx).2.1 q, fun hx => (h.2 (-v) hx).2.2.1 (by rw [Int.neg_neg]; exact q)⟩
  · exact ⟨fun hx => (h.2 v hx).2.2.1 q, fun hx => (h.2 (-v) hx).2.1 q⟩
theorem Kept.to {k j : Nat} {x : List Int} (h : Kept c k x) (hs : ∀ l ∈ x, l ∈ c.C j) : Kept c j x := ⟨h.1, fun l hl => ⟨hs l hl, (h.2 l hl).2⟩⟩
/-- the axiom -/
theorem vis_ax (g : c.Good) {k i : Nat} (hs : c.ss[k]? = some (.ax i)) (hv : Vis c k) : leftOver (c.C k) c.cube ∈ c.half ∧ Kept c k (leftOver (c.C k) c.cube) := by
  have ha : c.cs[i]? = some (c.C k) := g.at hs
  have hval := g.gval hs
  rw [hv.2.1] at hval
  have hside : decide ((i : Int) ∈ c.div) = decide (c.side = 1) := by
    unfold Mc.side
    rw [hval]
    simp only [gateOf]
    by_cases q : (i : Int) ∈ c.div
    · simp [q, needG, Rb.gval]
    · simp [q, needG, Rb.gval]
  have hmem : c.C k ∈ sideC c.cs c.div c.side := side_mem.mpr ⟨i, ha, hside⟩
  have hno : ∀ l ∈ c.C k, l ∉ c.cube := fun l hl hc => by
    by_cases q : c.val = true ∨ 0 < l
    · exact hv.2.2 l hl q hc
    · have hvf : c.val = false := by cases h : c.val with | true => exact absurd (.inl h) q | false => rfl
      have hs1 : c.side = 1 := by unfold Mc.side; rw [hvf]; rfl
      have hl0 : absI l = -l := by
        have := ((g.clk k).2.1 l hl).1
        unfold absI; split <;> omega
      have := g.sub l hc
      rw [hl0] at this
      exact rising_no g.ris (by rw [← hs1]; exact hmem) hl this
  have hsat : sat c.cube (c.C k) = false := by
    unfold sat
    rw [decide_eq_false_iff_not]
    have : (c.C k).filter (fun l => decide (l ∈ c.cube)) = [] := List.filter_eq_nil_iff.mpr fun l hl => by simpa using hno l hl
    rw [this]
    simp
  refine ⟨ssC_mem.mpr (List.mem_map.mpr ⟨c.C k, List.mem_filter.mpr ⟨hmem, by rw [hsat]; rfl⟩, rfl⟩), ?_, fun l hl => ?_⟩
  · exact (g.clk k).of ((g.clk k).1.filter _) fun l hl => (List.mem_filter.mp hl).1
  · obtain ⟨h1, h2⟩ := List.mem_filter.mp hl
    exact ⟨h1, hno l h1, by simpa using h2, vars_mem.mpr ⟨c.C k, hmem, l, h1, rfl⟩⟩
/-- a weakening -/
theorem vis_wk (g : c.Good) {k a : Nat} {x : List Int} (hs : c.ss[k]? = some (.wk a x)) (hv : Vis c k) : a < k ∧ Vis c a ∧ ∀ y, Kept c a y → Kept c k y := by
  obtain ⟨h1, h2⟩ : a < k ∧ ∀ l ∈ c.C a, l ∈ c.C k := g.at hs
  have hval := g.gval hs
  rw [hv.2.1] at hval
  exact ⟨h1, ⟨Nat.lt_trans h1 hv.1, hval.symm, fun l hl q => hv.2.2 l (h2 l hl) q⟩, fun y hy => hy.to fun l hl => h2 l (hy.2 l hl).1⟩
/-- a resolution: the clauses above -/
theorem res_up {p q r : List Int} {v : Int} (h : resolv p q v = some r) : (∀ l ∈ p, l ≠ v → l ∈ r) ∧ ∀ l ∈ q, l ≠ -v → l ∈ r := by
  obtain ⟨_, _, e, _⟩ := resolv_inv h
  rw [e]
  exact ⟨fun l h1 h2 => res_mem.mpr (.inl ⟨h1, h2⟩), fun l h1 h2 => res_mem.mpr (.inr ⟨h1, h2⟩)⟩
theorem vis_up (g : c.Good) {k a b v : Nat} (hs : c.ss[k]? = some (.res a b v)) (hv : Vis c k) :
    (c.gv.getD a false = c.val → (v : Int) ∉ c.cube → Vis c a) ∧ (c.gv.getD b false = c.val → (-(v : Int) ∉ c.cube ∨ c.val = false) → Vis c b) := by
  obtain ⟨h1, h2, v1, v2, hr⟩ : a < k ∧ b < k ∧ 1 ≤ v ∧ v ≤ c.n ∧ resolv (c.C a) (c.C b) v = some (c.C k) := g.at hs
  obtain ⟨u1, u2⟩ := res_up hr
  refine ⟨fun hval hn => ⟨Nat.lt_trans h1 hv.1, hval, fun l hl q => ?_⟩, fun hval hn => ⟨Nat.lt_trans h2 hv.1, hval, fun l hl q => ?_⟩⟩
  · by_cases e : l = v
    · rw [e]; exact hn
    · exact hv.2.2 l (u1 l hl e) q
  · by_cases e : l = -(v : Int)
    · rw [e] at q ⊢
      rcases hn with hn | hn
      · exact hn
      · rw [hn] at q
        rcases q with q | q
        · cases q
        · omega
    · exact hv.2.2 l (u2 l hl e) q
/-- a common variable: the way down -/
theorem vis_need (g : c.Good) {k a b v : Nat} (hs : c.ss[k]? = some (.res a b v)) (hv : Vis c k) (hc : (v : Int) ∈ common c.cs c.div) :
    let w := decide ((v : Int) ∈ c.cube) || (!c.val && !c.gv.getD b false)
    (w = true → b < k ∧ Vis c b ∧ ∀ y, Kept c b y → Kept c k y) ∧ (w = false → a < k ∧ Vis c a ∧ ∀ y, Kept c a y → Kept c k y) := by
  obtain ⟨h1, h2, v1, v2, hr⟩ : a < k ∧ b < k ∧ 1 ≤ v ∧ v ≤ c.n ∧ resolv (c.C a) (c.C b) v = some (c.C k) := g.at hs
  obtain ⟨u1, u2⟩ := res_up hr
  have hval := g.gval hs
  rw [hv.2.1] at hval
  simp only [gateOf] at hval
  rw [if_pos (decide_eq_true hc)] at hval
  simp only [needG, Rb.gval] at hval
  obtain ⟨w1, w2⟩ := vis_up g hs hv
  have kb : ∀ y, Kept c b y → Kept c k y := fun y hy => hy.to fun l hl => u2 l (hy.2 l hl).1 fun e => (hy.free g hc).2 (e ▸ hl)
  have ka : ∀ y, Kept c a y → Kept c k y := fun y hy => hy.to fun l hl => u1 l (hy.2 l hl).1 fun e => (hy.free g hc).1 (e ▸ hl)
  intro w
  refine ⟨fun hw => ⟨h2, w2 ?_ ?_, kb⟩, fun hw => ⟨h1, w1 ?_ ?_, ka⟩⟩
  · show c.gv.getD b false = c.val
    by_cases q : (v : Int) ∈ c.cube
    · rw [hval, decide_eq_true q]; simp
    · have hw' : (decide ((v : Int) ∈ c.cube) || (!c.val && !c.gv.getD b false)) = true := hw
      rw [decide_eq_false q] at hw'
      cases h3 : c.val <;> cases h4 : c.gv.getD b false <;> simp_all
  · by_cases q : (v : Int) ∈ c.cube
    · exact .inl (g.cub.2.2 _ q)
    · have hw' : (decide ((v : Int) ∈ c.cube) || (!c.val && !c.gv.getD b false)) = true := hw
      rw [decide_eq_false q] at hw'
      cases h3 : c.val with
      | false => exact .inr rfl
      | true => rw [h3] at hw'; cases hw'
  · have hw' : (decide ((v : Int) ∈ c.cube) || (!c.val && !c.gv.getD b false)) = false := hw
    rw [Bool.or_eq_false_iff] at hw'
    rw [hw'.1] at hval
    cases h3 : c.val <;> cases h4 : c.gv.getD b false <;> simp_all
  · have hw' : (decide ((v : Int) ∈ c.cube) || (!c.val && !c.gv.getD b false)) = false := hw
    rw [Bool.or_eq_false_iff] at hw'
    exact of_decide_eq_false hw'.1
/-- the gate of a variable of one side -/
def isOr (c : Mc) (v : Nat) : Bool := !decide ((v : Int) ∈ vars (sideC c.cs c.div 2))
theorem cube_no (g : c.Good) {v : Int} (h : v ∉ common c.cs c.div) (h0 : 0 < v) : v ∉ c.cube ∧ -v ∉ c.cube := by
  refine ⟨fun hc => h ?_, fun hc => h ?_⟩
  · have := g.sub v hc
    rwa [show absI v = v by unfold absI; split <;> omega] at this
  · have := g.sub (-v) hc
    rwa [show absI (-v) = v by unfold absI; split <;> omega] at this
theorem vis_pick (g : c.Good) {k a b v : Nat} (hs : c.ss[k]? = some (.res a b v)) (hv : Vis c k) (hc : (v : Int) ∉ common c.cs c.div) (ho : isOr c v = c.val) :
    ∃ t r, [a, b].filter (fun z => decide (c.gv.getD z false = c.val)) = t :: r ∧ t < k ∧ Vis c t ∧ ∀ y, Kept c t y → Kept c k y := by
  obtain ⟨h1, h2, v1, v2, hr⟩ : a < k ∧ b < k ∧ 1 ≤ v ∧ v ≤ c.n ∧ resolv (c.C a) (c.C b) v = some (c.C k) := g.at hs
  obtain ⟨u1, u2⟩ := res_up hr
  obtain ⟨w1, w2⟩ := vis_up g hs hv
  obtain ⟨n1, n2⟩ := cube_no g hc (by omega : (0 : Int) < v)
  have hval := g.gval hs
  rw [hv.2.1] at hval
  simp only [gateOf] at hval
  rw [if_neg (by simpa using hc)] at hval
  -- no kept clause has the variable
  have hnv : (v : Int) ∉ vars (sideC c.cs c.div c.side) := fun h => by
    unfold isOr at ho
    unfold Mc.side at h
    cases hcv : c.val with
    | true =>
      rw [hcv] at ho h
      have h' : (v : Int) ∈ vars (sideC c.cs c.div 2) := h
      simp [h'] at ho
    | false =>
      rw [hcv] at ho h
      have h' : (v : Int) ∈ vars (sideC c.cs c.div 1) := h
      have h2 : (v : Int) ∈ vars (sideC c.cs c.div 2) := by simpa using ho
      exact hc (common_mem.mpr ⟨h', h2⟩)
  have free : ∀ {j : Nat} {y : List Int}, Kept c j y → (v : Int) ∉ y ∧ -(v : Int) ∉ y := fun {j y} hy => by
    refine ⟨fun h => hnv ?_, fun h => hnv ?_⟩
    · have := (hy.2 _ h).2.2.2
      rwa [show absI (v : Int) = v by unfold absI; split <;> omega] at this
    · have := (hy.2 _ h).2.2.2
      rwa [show absI (-(v : Int)) = v by unfold absI; split <;> omega] at this
  have ka : ∀ y, Kept c a y → Kept c k y := fun y hy => hy.to fun l hl => u1 l (hy.2 l hl).1 fun e => (free hy).1 (e ▸ hl)
  have kb : ∀ y, Kept c b y → Kept c k y := fun y hy => hy.to fun l hl => u2 l (hy.2 l hl).1 fun e => (free hy).2 (e ▸ hl)
  have hab : c.gv.getD a false = c.val ∨ c.gv.getD b false = c.val := by
    unfold isOr at ho
    by_cases q : (v : Int) ∈ vars (sideC c.cs c.div 2)
    · rw [if_pos (decide_eq_true q)] at hval
      simp only [needG, Rb.gval] at hval
      rw [decide_eq_true q] at ho
      have e : c.val = false := ho.symm
      rw [e] at hval ⊢
      exact (by decide : ∀ x y : Bool, false = (x && y) → x = false ∨ y = false) _ _ hval
    · rw [if_neg (by simpa using q)] at hval
      simp only [needG, Rb.gval] at hval
      rw [decide_eq_false q] at ho
      have e : c.val = true := ho.symm
      rw [e] at hval ⊢
      exact (by decide : ∀ x y : Bool, true = (x || y) → x = true ∨ y = true) _ _ hval
  by_cases qa : c.gv.getD a false = c.val
  · exact ⟨a, _, by rw [List.filter_cons_of_pos (p := fun z => decide (c.gv.getD z false = c.val)) (decide_eq_true qa)], h1, w1 qa n1, ka⟩
  · have qb := hab.resolve_left qa
    exact ⟨b, [], by rw [List.filter_cons_of_neg (p := fun z => decide (c.gv.getD z false = c.val)) (by simpa using qa), List.filter_cons_of_pos (p := fun z => decide (c.gv.getD z false = c.val)) (decide_eq_true qb)]; rfl, h2, w2 qb (.inl n2), kb⟩
theorem vis_both (g : c.Good) {k a b v : Nat} (hs : c.ss[k]? = some (.res a b v)) (hv : Vis c k) (hc : (v : Int) ∉ common c.cs c.div) (ho : isOr c v ≠ c.val) :
    a < k ∧ b < k ∧ Vis c a ∧ Vis c b ∧ ∀ x y, Kept c a x → Kept c b y → ((v : Int) ∉ x → Kept c k x) ∧ (-(v : Int) ∉ y → Kept c k y) ∧ ((v : Int) ∈ x → -(v : Int) ∈ y → ∃ r, resolv x y v = some r ∧ Kept c k r) := by
  obtain ⟨h1, h2, v1, v2, hr⟩ : a < k ∧ b < k ∧ 1 ≤ v ∧ v ≤ c.n ∧ resolv (c.C a) (c.C b) v = some (c.C k) := g.at hs
  obtain ⟨u1, u2⟩ := res_up hr
  obtain ⟨w1, w2⟩ := vis_up g hs hv
  obtain ⟨n1, n2⟩ := cube_no g hc (by omega : (0 : Int) < v)
  have hval := g.gval hs
  rw [hv.2.1] at hval
  simp only [gateOf] at hval
  rw [if_neg (by simpa using hc)] at hval
  have hab : c.gv.getD a false = c.val ∧ c.gv.getD b false = c.val := by
    unfold isOr at ho
    by_cases q : (v : Int) ∈ vars (sideC c.cs c.div 2)
    · rw [if_pos (decide_eq_true q)] at hval
      simp only [needG, Rb.gval] at hval
      rw [decide_eq_true q] at ho
      have e : c.val = true := by cases h : c.val with | true => rfl | false => rw [h] at ho; exact absurd rfl ho
      rw [e] at hval ⊢
      exact (by decide : ∀ x y : Bool, true = (x && y) → x = true ∧ y = true) _ _ hval
    · rw [if_neg (by simpa using q)] at hval
      simp only [needG, Rb.gval] at hval
      rw [decide_eq_false q] at ho
      have e : c.val = false := by cases h : c.val with | false => rfl | true => rw [h] at ho; exact absurd rfl ho
      rw [e] at hval ⊢
      exact (by decide : ∀ x y : Bool, false = (x || y) → x = false ∧ y = false) _ _ hval
  refine ⟨h1, h2, w1 hab.1 n1, w2 hab.2 (.inl n2), fun x y hx hy => ⟨fun hn => hx.to fun l hl => u1 l (hx.2 l hl).1 fun e => hn (e ▸ hl), fun hn => hy.to fun l hl => u2 l (hy.2 l hl).1 fun e => hn (e ▸ hl), fun hvx hvy => ?_⟩⟩
  have hin : ∀ l, ((l ∈ x ∧ l ≠ (v : Int)) ∨ (l ∈ y ∧ l ≠ -(v : Int))) → l ∈ c.C k := fun l h => by
    rcases h with ⟨p, q⟩ | ⟨p, q⟩
    · exact u1 l (hx.2 l p).1 q
    · exact u2 l (hy.2 l p).1 q
  have hck := g.clk k
  refine ⟨_, resolv_some hvx hvy fun l hl hn => hck.2.2 l (hin l hl) (hin (-l) hn), hck.of ssI_lt (fun l hl => hin l (res_mem.mp hl)), fun l hl => ⟨hin l (res_mem.mp hl), ?_⟩⟩
  rcases res_mem.mp hl with ⟨p, _⟩ | ⟨p, _⟩
  · exact (hx.2 l p).2
  · exact (hy.2 l p).2
end
end Rb
/-! the writer -/
namespace Rb
open PySem PySem.Spec L2
/-! ### pure parts within a method that changes the heap -/
section
variable {X : Cx} {ρ : List Sl} {e : Expr} {d : PyData} {b : Bool} {as : List Sl} {es : List Expr}
theorem DE.fr (h : DE X ρ e d) : PE X e (fun σ H Q => ∃ F, Same F H ∧ Rep H ρ σ F H ∧ ∀ v F' H', Gw F H F' H' → Is F' v d → Q v H') :=
  PE.weak h fun σ H Q ⟨F, s, r, q⟩ => ⟨F, H, F, Gw.refl s, r, fun v d' F' H' hd g _ _ i => q v F' H' g (hd ▸ i)⟩
theorem DT.fr (h : DT X ρ e b) : PT X e (fun σ H Q => ∃ F, Same F H ∧ Rep H ρ σ F H ∧ ∀ F' H', Gw F H F' H' → Q b H') :=
  PT.weak h fun σ H Q ⟨F, s, r, q⟩ => ⟨F, H, F, Gw.refl s, r, fun b' F' H' hb g _ _ => hb ▸ q F' H' g⟩
end
theorem Gw.via {F0 H0 Hs F H F' H' : Hp} (a : Gw F0 H0 F H) (s : Same H0 Hs) (b : Gw F Hs F' H') : Gw F0 H0 F' H' :=
  ⟨s.trans b.hh, a.ff.trans b.ff, b.fh, fun q o e => by
    rcases b.nw q o e with h | h
    · exact a.nw q o h
    · exact .inr (s.free h)⟩
/-- a list frozen for a while is let go -/
theorem Gw.unfz {F H F' H' : Hp} {l : Addr} {us : List V} (fl : F l = none) (hl : H l = some (.lst us)) (g : Gw (upd F l (.lst us)) H F' H') : Gw F H (wo F' l) H' ∧ F' l = some (.lst us) :=
  ⟨⟨g.hh, fun b o e => by
    have hb : b ≠ l := fun z => by rw [z, fl] at e; cases e
    rw [wo_ne hb]; exact g.ff b o (by rw [upd_ne hb]; exact e), fun b o e => g.fh b o (wo_same b o e), fun b o e => by
    have hb : b ≠ l := fun z => by rw [z, wo_self] at e; cases e
    rw [wo_ne hb] at e
    have := g.nw b o e
    rwa [upd_ne hb] at this⟩, g.ff _ _ upd_same⟩
/-- the writer's object -/
structure WrOk (CW : Addr) (n : Nat) (half : List (List Int)) (w ls lc : Addr) (ws : List Stp) (wcls : List (List Int)) (F H : Hp) : Prop where
  ex : ∃ dx vs, H w = some (.ins CW dx vs) ∧ (∃ v, vs.lookup ("formula" : Str) = some v ∧ Is F v (fD n half)) ∧ vs.lookup ("steps" : Str) = some (.ref ls) ∧ vs.lookup ("clauses" : Str) = some (.ref lc) ∧ vs.lookup ("add" : Str) = none ∧ vs.lookup ("resolve" : Str) = none
  st : ∃ us, H ls = some (.lst us) ∧ DqA F us (ws.map sD) ∧ (∀ d ∈ ws.map sD, Sz d) ∧ us.length ≤ sizeLine
  cl : ∃ us, H lc = some (.lst us) ∧ DqA F us (wcls.map cD) ∧ (∀ d ∈ wcls.map cD, Sz d) ∧ us.length ≤ sizeLine
  f1 : F ls = none
  f2 : F lc = none
  ne : ls ≠ lc
theorem WrOk.mono {CW : Addr} {n : Nat} {half : List (List Int)} {w ls lc : Addr} {ws : List Stp} {wcls : List (List Int)} {F H F' H' : Hp} (h : WrOk CW n half w ls lc ws wcls F H) (g : Gw F H F' H') : WrOk CW n half w ls lc ws wcls F' H' := by
  obtain ⟨⟨dx, vs, a1, ⟨v, a2, a3⟩, a4⟩, ⟨us, b1, b2, b3⟩, ⟨us2, c1, c2, c3⟩, f1, f2, ne⟩ := h
  exact ⟨⟨dx, vs, g.hh _ _ a1, ⟨v, a2, a3.mono g.ff⟩, a4⟩, ⟨us, g.hh _ _ b1, dqA_mono g.ff _ _ b2, b3⟩, ⟨us2, g.hh _ _ c1, dqA_mono g.ff _ _ c2, c3⟩, g.stays f1 b1, g.stays f2 c1, ne⟩
theorem same_up {F H : Hp} (hs : Same F H) {l : Addr} {o : HO} (hl : H l = some o) : Same (upd F l o) H := fun b u e => by
  by_cases hb : b = l
  · rw [hb, upd_same] at e; rw [hb, hl]; exact e
  · rw [upd_ne hb] at e; exact hs _ _ e
/-- the views of it in which its lists are data -/
theorem WrOk.viewC {CW : Addr} {n : Nat} {half : List (List Int)} {w ls lc : Addr} {ws : List Stp} {wcls : List (List Int)} {F H : Hp} (h : WrOk CW n half w ls lc ws wcls F H) :
    ∃ us, H lc = some (.lst us) ∧ MutOk H (upd F lc (.lst us)) H (.obj w CW [("formula", fD n half), ("clauses", .list (wcls.map cD))]) := by
  obtain ⟨⟨dx, vs, a1, ⟨v, a2, a3⟩, a4, a5, _⟩, _, ⟨us2, c1, c2, c3, c4⟩, f1, f2, ne⟩ := h
  refine ⟨us2, c1, dx, vs, a1, fun f d e => ?_⟩
  by_cases h1 : f = "formula"
  · subst h1
    rw [dk1] at e
    cases e
    exact FldOk.of a2 (a3.mono (same_new f2))
  · rw [dk2 (by simpa using h1)] at e
    by_cases h2 : f = "clauses"
    · subst h2
      rw [dk1] at e
      cases e
      exact FldOk.of a5 ⟨.lst upd_same (dqA_mono (same_new f2) _ _ c2), sz_list.mpr ⟨by rw [← dqA_len c2]; exact c4, c3⟩⟩
    · rw [dk2 (by simpa using h2)] at e; cases e
theorem WrOk.viewS {CW : Addr} {n : Nat} {half : List (List Int)} {w ls lc : Addr} {ws : List Stp} {wcls : List (List Int)} {F H : Hp} (h : WrOk CW n half w ls lc ws wcls F H) :
    ∃ us, H ls = some (.lst us) ∧ MutOk H (upd F ls (.lst us)) H (.obj w CW [("steps", .list (ws.map sD))]) := by
  obtain ⟨⟨dx, vs, a1, _, a4, a5, _⟩, ⟨us, b1, b2, b3, b4⟩, _, f1, f2, ne⟩ := h
  refine ⟨us, b1, dx, vs, a1, fun f d e => ?_⟩
  by_cases h1 : f = "steps"
  · subst h1
    rw [dk1] at e
    cases e
    exact FldOk.of a4 ⟨.lst upd_same (dqA_mono (same_new f1) _ _ b2), sz_list.mpr ⟨by rw [← dqA_len b2]; exact b4, b3⟩⟩
  · rw [dk2 (by simpa using h1)] at e; cases e
structure WrCls (K : PySem.W.Frag) (C : Addr) : Prop where
  cls : Cls K C
  n1 : NoAttr K C "formula"
  n2 : NoAttr K C "steps"
  n3 : NoAttr K C "clauses"
structure WaT where
  n : Nat
  half : List (List Int)
  w : Addr
  ls : Addr
  lc : Addr
  ws : List Stp
  wcls : List (List Int)
/-- add a step whose clause is x -/
def spAdd (CW : Addr) : Sp := fun vs H Q _ => ∃ (t : WaT) (s : Stp) (x : List Int) (u : V) (F0 H0 F : Hp), vs = [.ref t.w, u] ∧ Is F u (sD s) ∧ WrOk CW t.n t.half t.w t.ls t.lc t.ws t.wcls F H ∧ NextPre t.n t.half t.wcls s ∧ nextC t.half t.wcls s = some x ∧ t.ws.length ≤ 1000 ∧ t.wcls.length = t.ws.length ∧
  Gw F0 H0 F H ∧ H0 t.ls = none ∧ H0 t.lc = none ∧ ∀ F' H', Gw F0 H0 F' H' → Same F F' → (∀ b o, H b = some o → b ≠ t.ls → b ≠ t.lc → H' b = some o) → WrOk CW t.n t.half t.w t.ls t.lc (t.ws ++ [s]) (t.wcls ++ [x]) F' H' → Q (.int (t.ws.length : Nat)) H'
theorem sz_sD (s : Stp) (h : match s with | .wk _ c => c.length ≤ 1000 | _ => True) : Sz (sD s) := by
  have two : (2 : Nat) ≤ sizeLine := by decide
  have four : (4 : Nat) ≤ sizeLine := by decide
  cases s with
  | ax i => exact sz_tuple.mpr ⟨two, fun d hd => by simp at hd; rcases hd with rfl | rfl; exact sz_str _; exact sz_int _⟩
  | res a b v => exact sz_tuple.mpr ⟨four, fun d hd => by simp at hd; rcases hd with rfl | rfl | rfl | rfl; exact sz_str _; exact sz_int _; exact sz_int _; exact sz_int _⟩
  | wk a c => exact sz_tuple.mpr ⟨by show 3 ≤ sizeLine; decide, fun d hd => by
      simp at hd
      rcases hd with rfl | rfl | rfl
      · exact sz_str _
      · exact sz_int _
      · exact sz_tuple.mpr ⟨by have h' : c.length ≤ 1000 := h; rw [List.length_map, sizeLine_eq]; omega, fun d hd => by obtain ⟨i, _, rfl⟩ := List.mem_map.mp hd; exact sz_int i⟩⟩
section
variable {X : Cx} {k : Nat} {CW : Addr}
theorem rep_two {N : List Str} {H F : Hp} {w C : Addr} {fs : List (Str × PyData)} {us : List V} {ds : List PyData} (h : MutOk H F H (.obj w C fs)) (ha : ArOk H F H us (ds.map .dat)) : Rep H (.obj w C fs :: (ds.map .dat ++ List.replicate (N.length - (1 + ds.length)) .any)) (L2.start N (.ref w :: us)) F H := by
  have hap : Apart (.obj w C fs :: ds.map .dat) := fun i j s t' a e1 e2 a1 a2 => by
    have noadr : ∀ s ∈ (Sl.obj w C fs :: ds.map .dat), s.adr = none := fun s hs => by
      rcases List.mem_cons.mp hs with rfl | hs
      · rfl
      · obtain ⟨z, _, rfl⟩ := List.mem_map.mp hs; rfl
    rw [noadr s (List.mem_of_getElem? e1)] at a1
    cases a1
  have r := rep_start (N := N) (vs := .ref w :: us) (as := .obj w C fs :: ds.map .dat) (H0 := H) (F := F) (H := H) (.cons ⟨rfl, h⟩ ha) hap
  have e : (.obj w C fs :: ds.map Sl.dat).length = 1 + ds.length := by rw [List.length_cons, List.length_map]; omega
  rw [e] at r
  exact r
theorem b_add (K : WrCls X.K CW) [fx : Fx X (defScope sM_Shortener_add) nM_Shortener_add k] [Fl X] (hk : 5 ≤ k) (h1 : Hs X "next_clause" 5 pNext) (vs : List V) (H : Hp) (Q : VK) (E : XK) (h : spAdd CW vs H Q E) : ∃ t, PSs X (defBody sM_Shortener_add) t ∧ t { nx := fun _ H' => Q .non H', rt := Q } (L2.start nM_Shortener_add vs) H := by
  obtain ⟨⟨n, half, w, ls, lc, ws, wcls⟩, s, x, u, F0, H0, F, rfl, iu, wr, hpre, hx, hz, hlen, g, hls, hlc, q⟩ := h
  simp only at wr hpre hx hz hlen hls hlc q
  obtain ⟨v1, v2, v3⟩ := vis_of (X := X) (x := "self") fx.hsc (by decide +kernel)
  obtain ⟨w1, w2, w3⟩ := vis_of (X := X) (x := "step") fx.hsc (by decide +kernel)
  have ev := fun p => pe_var (X := X) (pos := p) (i := 0) (x := "self") (by rw [fx.hN]; rfl) v1 v2 v3
  have ew := fun p => pe_var (X := X) (pos := p) (i := 1) (x := "step") (by rw [fx.hN]; rfl) w1 w2 w3
  have hnext : ∀ p1 p2 p3 p4 p5 p6 p7 : Pos, DE X [.obj w CW [("formula", fD n half), ("clauses", .list (wcls.map cD))], .dat (sD s)] (.Call (.Name "next_clause" p1) [.Attribute (.Name "self" p2) "formula" p3, .Attribute (.Name "self" p4) "clauses" p5, .Name "step" p6] [] p7) (cD x) := fun p1 p2 p3 p4 p5 p6 p7 =>
    DE.to (e_call h1 (n, half, wcls, s) (a_d (e_fld 0 rfl rfl K.cls K.n1 dk1) (a_d (e_fld 0 rfl rfl K.cls K.n3 (by rw [dk2 (by decide +kernel), dk1])) (a_d (e_v 1 rfl rfl) a_nil))) hpre hk) (by show oD (nextC half wcls s) = cD x; rw [hx]; rfl)
  refine ⟨_, pss_cons (ps_expr (pe_bm PySem.F.plainAttrs_list PySem.F.slot_list_append PySem.F.type_list_append mt_append (pe_fld (ev _) rfl) (pa_cons (DE.fr (hnext _ _ _ _ _ _ _)) pa_nil) rfl rfl rfl rfl rfl) rfl)
    (pss_cons (ps_expr (pe_bm PySem.F.plainAttrs_list PySem.F.slot_list_append PySem.F.type_list_append mt_append (pe_fld (ev _) rfl) (pa_cons (ew _) pa_nil) rfl rfl rfl rfl rfl) rfl)
      (pss_cons (ps_ret (DE.fr (ρ := [.obj w CW [("steps", .list ((ws ++ [s]).map sD))], .dat (sD s)]) (e_sub (e_lenL (e_fld 0 rfl rfl K.cls K.n2 dk1)) e_int))) pss_nil)), ?_⟩
  obtain ⟨cus, hcl, vC⟩ := wr.viewC
  obtain ⟨⟨dx, fvs, a1, ⟨vf, a2, a3⟩, a4, a5, a6, a7⟩, ⟨us, b1, b2, b3, b4⟩, ⟨us2, c1, c2, c3, c4⟩, f1, f2, ne⟩ := wr
  have ecus : cus = us2 := by rw [hcl] at c1; cases c1; rfl
  subst ecus
  have sCF := same_up g.fh hcl
  have hwc : w ≠ lc := fun e => by rw [e, hcl] at a1; cases a1
  have hws : w ≠ ls := fun e => by rw [e, b1] at a1; cases a1
  have lws : us.length = ws.length := by rw [dqA_len b2, List.length_map]
  have lcs : cus.length = wcls.length := by rw [dqA_len c2, List.length_map]
  refine ⟨_, rfl, w, CW, dx, fvs, .ref lc, rfl, a1, K.cls, K.n3, a5, .inl ⟨rfl, _, SqL.of hcl⟩, upd F lc (.lst cus), sCF, rep_two (N := nM_Shortener_add) (us := [u]) (ds := [sD s]) vC (.cons ⟨u, rfl, iu.mono (same_new f2)⟩ .nil), fun v F' H' gg is => ?_⟩
  obtain ⟨g2, hF'⟩ := Gw.unfz f2 hcl gg
  have is2 : Is (wo F' lc) v (cD x) := ⟨dq_wo hF' _ _ (noL_cD x) is.1, is.2⟩
  generalize hF2 : wo F' lc = F2 at g2 is2
  have f2c : F2 lc = none := by rw [← hF2]; exact wo_self
  have f2s : F2 ls = none := g2.stays f1 b1
  have h'c := g2.hh _ _ hcl
  have h's := g2.hh _ _ b1
  have h'w := g2.hh _ _ a1
  refine ⟨lc, cus, v, rfl, rfl, h'c, by rw [lcs, sizeLine_eq]; omega, ?_⟩
  have e2s : upd H' lc (.lst (cus ++ [v])) ls = some (.lst us) := by rw [upd_ne ne]; exact h's
  refine ⟨_, rfl, w, CW, dx, fvs, .ref ls, rfl, by rw [upd_ne hwc]; exact h'w, K.cls, K.n2, a4, .inl ⟨rfl, _, SqL.of e2s⟩, u, rfl, ls, us, u, rfl, rfl, e2s, by rw [lws, sizeLine_eq]; omega, ?_⟩
  -- the writer anew
  generalize hH3 : upd (upd H' lc (.lst (cus ++ [v]))) ls (.lst (us ++ [u])) = H3
  have gN : Gw F0 H0 F2 H3 := by rw [← hH3]; exact ((g.trans g2).put hlc f2c).put hls f2s
  have k3 : ∀ b o, H b = some o → b ≠ ls → b ≠ lc → H3 b = some o := fun b o e e1 e2 => by rw [← hH3, upd_ne e1, upd_ne e2]; exact g2.hh _ _ e
  have wr3 : WrOk CW n half w ls lc (ws ++ [s]) (wcls ++ [x]) F2 H3 := by
    refine ⟨⟨dx, fvs, k3 _ _ a1 hws hwc, ⟨vf, a2, a3.mono g2.ff⟩, a4, a5, a6, a7⟩, ⟨us ++ [u], by rw [← hH3, upd_same], ?_, ?_, by rw [List.length_append, List.length_singleton, lws, sizeLine_eq]; omega⟩, ⟨cus ++ [v], by rw [← hH3, upd_ne (Ne.symm ne), upd_same], ?_, ?_, by rw [List.length_append, List.length_singleton, lcs, sizeLine_eq]; omega⟩, f2s, f2c, ne⟩
    · rw [List.map_append]; exact dqA_app (dqA_mono g2.ff _ _ b2) (.cons (iu.mono g2.ff).1 .nil)
    · intro d hd
      rw [List.map_append] at hd
      rcases List.mem_append.mp hd with h | h
      · exact b3 d h
      · rw [List.mem_singleton.mp h]; exact iu.2
    · rw [List.map_append]; exact dqA_app (dqA_mono g2.ff _ _ c2) (.cons is2.1 .nil)
    · intro d hd
      rw [List.map_append] at hd
      rcases List.mem_append.mp hd with h | h
      · exact c3 d h
      · rw [List.mem_singleton.mp h]; exact is2.2
  obtain ⟨sus, hsl, vS⟩ := wr3.viewS
  refine ⟨upd F2 ls (.lst sus), same_up gN.fh hsl, rep_two (N := nM_Shortener_add) (us := [u]) (ds := [sD s]) vS (.cons ⟨u, rfl, (iu.mono g2.ff).mono (same_new f2s)⟩ .nil), fun v4 F4 H4 g4 is4 => ?_⟩
  obtain ⟨g5, _⟩ := Gw.unfz f2s hsl g4
  have ev4 : v4 = .int (ws.length : Nat) := by
    rw [is4.int_inv, List.length_map, List.length_append, List.length_singleton]
    congr 1
    omega
  rw [ev4]
  exact q (wo F4 ls) H4 (gN.trans g5) (g2.ff.trans g5.ff) (fun b o e e1 e2 => g5.hh _ _ (k3 b o e e1 e2)) (wr3.mono g5)
end
end Rb
/-! the writer: resolve, __init__ -/
namespace Rb
open PySem PySem.Spec L2
structure WrT2 where
  t : WaT
  a : Nat
  b : Nat
  v : Nat
  p : List Int
  q : List Int
def spRes (CW : Addr) : Sp := fun vs H Q _ => ∃ (t : WaT) (a b v : Nat) (p q : List Int) (F0 H0 F : Hp), vs = [.ref t.w, .int a, .int b, .int v] ∧ WrOk CW t.n t.half t.w t.ls t.lc t.ws t.wcls F H ∧ t.wcls[a]? = some p ∧ t.wcls[b]? = some q ∧ 1 ≤ v ∧ v ≤ t.n ∧ p.length + q.length < 64 ∧ t.ws.length ≤ 1000 ∧ t.wcls.length = t.ws.length ∧
  Gw F0 H0 F H ∧ H0 t.ls = none ∧ H0 t.lc = none ∧ ((v : Int) ∈ p → -(v : Int) ∈ q → ∃ x, resolv p q v = some x) ∧
  ∀ F' H', Gw F0 H0 F' H' → Same F F' → (∀ b o, H b = some o → b ≠ t.ls → b ≠ t.lc → H' b = some o) →
    ((v : Int) ∉ p → WrOk CW t.n t.half t.w t.ls t.lc t.ws t.wcls F' H' → Q (.int a) H') ∧ ((v : Int) ∈ p → -(v : Int) ∉ q → WrOk CW t.n t.half t.w t.ls t.lc t.ws t.wcls F' H' → Q (.int b) H') ∧
    ((v : Int) ∈ p → -(v : Int) ∈ q → ∀ x, resolv p q v = some x → WrOk CW t.n t.half t.w t.ls t.lc (t.ws ++ [.res a b v]) (t.wcls ++ [x]) F' H' → Q (.int (t.ws.length : Nat)) H')
/-- what __init__ lays -/
def spIW (CW : Addr) : Sp := fun vs H Q _ => ∃ (n : Nat) (half : List (List Int)) (y dx : Addr) (u : V) (F : Hp), vs = [.ref y, u] ∧ Is F u (fD n half) ∧ Same F H ∧ F y = none ∧ H y = some (.ins CW dx []) ∧
  ∀ H' ls lc, (∀ b o, H b = some o → b ≠ y → H' b = some o) → H ls = none → H lc = none → Same F H' → WrOk CW n half y ls lc [] [] F H' → Q .non H'
section
variable {X : Cx} {k : Nat} {CW : Addr}
theorem b_res (K : WrCls X.K CW) [fx : Fx X (defScope sM_Shortener_resolve) nM_Shortener_resolve k] [Fl X] (hk : 6 ≤ k) (hm : Ms X 6 CW "add" (spAdd CW)) (vs : List V) (H : Hp) (Q : VK) (E : XK) (h : spRes CW vs H Q E) : ∃ t, PSs X (defBody sM_Shortener_resolve) t ∧ t { nx := fun _ H' => Q .non H', rt := Q } (L2.start nM_Shortener_resolve vs) H := by
  obtain ⟨⟨n, half, w, ls, lc, ws, wcls⟩, a, b, v, p, q, F0, H0, F, rfl, wr, hp, hq, hv, hv2, hz, hz2, hlen, g, hls, hlc, hex, q3⟩ := h
  simp only at wr hp hq hv hv2 hz hz2 hlen hls hlc hex q3
  obtain ⟨v1, v2, v3⟩ := vis_of (X := X) (x := "self") fx.hsc (by decide +kernel)
  obtain ⟨w1, w2, w3⟩ := vis_of (X := X) (x := "a") fx.hsc (by decide +kernel)
  obtain ⟨y1, y2, y3⟩ := vis_of (X := X) (x := "b") fx.hsc (by decide +kernel)
  obtain ⟨mf, mfd, mps, mc, mm, mF, mb⟩ := hm.ex
  let ρ : List Sl := [.obj w CW [("formula", fD n half), ("clauses", .list (wcls.map cD))], .dat (.int a), .dat (.int b), .dat (.int v)]
  let ρ0 : List Sl := [.obj w CW [], .dat (.int a), .dat (.int b), .dat (.int v)]
  refine ⟨_, pss_cons (ps_if (DT.fr (ρ := ρ) (t_niT (ns := p) (e_v 3 rfl rfl) (e_ixL (e_fld 0 rfl rfl K.cls K.n3 (by rw [dk2 (by decide +kernel), dk1])) (e_v 1 rfl rfl) (at_get hp)))) (pss_cons (ps_ret (pe_var (i := 1) (by rw [fx.hN]; rfl) w1 w2 w3)) pss_nil) pss_nil)
    (pss_cons (ps_if (DT.fr (ρ := ρ) (t_niT (ns := q) (e_neg (e_v 3 rfl rfl)) (e_ixL (e_fld 0 rfl rfl K.cls K.n3 (by rw [dk2 (by decide +kernel), dk1])) (e_v 2 rfl rfl) (at_get hq)))) (pss_cons (ps_ret (pe_var (i := 2) (by rw [fx.hN]; rfl) y1 y2 y3)) pss_nil) pss_nil)
      (pss_cons (ps_ret (pe_meth (pl := _) (pe_var (i := 0) (by rw [fx.hN]; rfl) v1 v2 v3) mc mm mF (fx.room.mono hk) mb (.nil : Vals [] []) pass0
        (pa_cons (DE.fr (ρ := ρ0) (d := sD (.res a b v)) (e_tup (ds := [.str "resolve", .int a, .int b, .int v]) (a_d e_str (a_d (e_v 1 rfl rfl) (a_d (e_v 2 rfl rfl) (a_d (e_v 3 rfl rfl) a_nil)))))) pa_nil) rfl rfl rfl)) pss_nil)), ?_⟩
  have args : ∀ F H, ArOk H F H [V.int a, .int b, .int v] ([PyData.int a, .int b, .int v].map .dat) := fun F H => .cons ⟨_, rfl, is_int⟩ (.cons ⟨_, rfl, is_int⟩ (.cons ⟨_, rfl, is_int⟩ .nil))
  obtain ⟨cus, hcl, vC⟩ := wr.viewC
  refine ⟨upd F lc (.lst cus), same_up g.fh hcl, rep_two (N := nM_Shortener_resolve) (ds := [.int a, .int b, .int v]) vC (args _ _), fun F' H' gg => ?_⟩
  obtain ⟨g2, _⟩ := Gw.unfz wr.f2 hcl gg
  have wr2 := wr.mono g2
  generalize wo F' lc = F2 at g2 wr2
  have fin2 := q3 F2 H' (g.trans g2) g2.ff (fun b o e _ _ => g2.hh _ _ e)
  by_cases hvp : (v : Int) ∈ p
  · rw [decide_eq_true hvp]
    refine iteF ?_
    obtain ⟨cus2, hcl2, vC2⟩ := wr2.viewC
    refine ⟨upd F2 lc (.lst cus2), same_up g2.fh hcl2, rep_two (N := nM_Shortener_resolve) (ds := [.int a, .int b, .int v]) vC2 (args _ _), fun F3 H3 gg3 => ?_⟩
    obtain ⟨g4, _⟩ := Gw.unfz wr2.f2 hcl2 gg3
    have wr4 := wr2.mono g4
    generalize wo F3 lc = F4 at g4 wr4
    have g24 := g2.trans g4
    have fin4 := q3 F4 H3 (g.trans g24) g24.ff (fun b o e _ _ => g24.hh _ _ e)
    by_cases hvq : -(v : Int) ∈ q
    · rw [decide_eq_true hvq]
      refine iteF ?_
      obtain ⟨x, hx⟩ := hex hvp hvq
      obtain ⟨⟨dx, fvs, a1, _, _, _, a6, a7⟩, _⟩ := id wr4
      have v0 : MutOk H3 F4 H3 (.obj w CW []) := ⟨dx, fvs, a1, fun f d e => by cases e⟩
      refine ⟨_, rfl, w, dx, fvs, rfl, a1, a6, F4, g4.fh, rep_two (N := nM_Shortener_resolve) (ds := [.int a, .int b, .int v]) v0 (args _ _), fun v5 F5 H5 g5 i5 => ?_⟩
      have g25 := g24.trans g5
      refine ⟨⟨n, half, w, ls, lc, ws, wcls⟩, .res a b v, x, v5, F0, H0, F5, rfl, i5, wr4.mono g5, ⟨(List.getElem?_eq_some_iff.mp hp).1, (List.getElem?_eq_some_iff.mp hq).1, ⟨hv, hv2⟩, ?_⟩, ?_, hz2, hlen, g.trans g25, hls, hlc, fun F6 H6 g6 s6 k6 wr6 => ?_⟩
      · rw [getD_get (List.getElem?_eq_some_iff.mp hp).1, getD_get (List.getElem?_eq_some_iff.mp hq).1, (List.getElem?_eq_some_iff.mp hp).2, (List.getElem?_eq_some_iff.mp hq).2]; exact hz
      · show resolv (wcls.getD a []) (wcls.getD b []) v = some x
        rw [getD_get (List.getElem?_eq_some_iff.mp hp).1, getD_get (List.getElem?_eq_some_iff.mp hq).1, (List.getElem?_eq_some_iff.mp hp).2, (List.getElem?_eq_some_iff.mp hq).2]; exact hx
      · exact (q3 F6 H6 g6 (g25.ff.trans s6) (fun b o e e1 e2 => k6 b o (g25.hh _ _ e) e1 e2)).2.2 hvp hvq x hx wr6
    · rw [decide_eq_false hvq]
      refine iteT ?_
      exact ⟨_, rfl, fin4.2.1 hvp hvq wr4⟩
  · rw [decide_eq_false hvp]
    refine iteT ?_
    exact ⟨_, rfl, fin2.1 hvp wr2⟩
theorem b_iw (K : WrCls X.K CW) [fx : Fx X (defScope sM_Shortener_init) nM_Shortener_init k] [Fl X] (vs : List V) (H : Hp) (Q : VK) (E : XK) (h : spIW CW vs H Q E) : ∃ t, PSs X (defBody sM_Shortener_init) t ∧ t { nx := fun _ H' => Q .non H', rt := Q } (L2.start nM_Shortener_init vs) H := by
  obtain ⟨n, half, y, dx, u, F, rfl, iu, hs, fy, hy, q⟩ := h
  obtain ⟨v1, v2, v3⟩ := vis_of (X := X) (x := "self") fx.hsc (by decide +kernel)
  obtain ⟨w1, w2, w3⟩ := vis_of (X := X) (x := "formula") fx.hsc (by decide +kernel)
  have ev := fun p => pe_var (X := X) (pos := p) (i := 0) (x := "self") (by rw [fx.hN]; rfl) v1 v2 v3
  refine ⟨_, pss_cons (ps_fld (ev _) (pe_var (i := 1) (by rw [fx.hN]; rfl) w1 w2 w3) rfl) (pss_cons (ps_fld (ev _) (pe_lst pa_nil) rfl) (pss_cons (ps_fld (ev _) (pe_lst pa_nil) rfl) pss_nil)), ?_⟩
  refine ⟨_, rfl, _, rfl, y, CW, dx, [], rfl, hy, K.cls, K.n1, by decide, Nat.zero_le _, fun ls hls => ⟨_, rfl, y, CW, dx, putF "formula" u [], rfl, ?_, K.cls, K.n2, ?_, Nat.zero_le _, fun lc hlc => ⟨_, rfl, y, CW, dx, putF "steps" (.ref ls) (putF "formula" u []), rfl, ?_, K.cls, K.n3, ?_, ?_⟩⟩⟩
  · have hne : y ≠ ls := fun e => by rw [← e, upd_same] at hls; cases hls
    rw [upd_ne hne, upd_same]
  · have := length_putF "formula" u []
    exact Nat.lt_of_le_of_lt this (by decide)
  · have hne : y ≠ lc := fun e => by rw [← e, upd_same] at hlc; cases hlc
    rw [upd_ne hne, upd_same]
  · have h1 := length_putF "formula" u []
    have h2 := length_putF "steps" (.ref ls) (putF "formula" u [])
    exact Nat.lt_of_le_of_lt (Nat.le_trans h2 (Nat.succ_le_succ h1)) (by decide)
  · have hyls : y ≠ ls := fun e => by rw [← e, upd_same] at hls; cases hls
    have hylc : y ≠ lc := fun e => by rw [← e, upd_same] at hlc; cases hlc
    have hls0 : H ls = none := by rwa [upd_ne (Ne.symm hyls)] at hls
    have hlsc : ls ≠ lc := fun e => by
      rw [← e, upd_ne (Ne.symm hyls), upd_same] at hlc
      cases hlc
    have hlc0 : H lc = none := by rwa [upd_ne (Ne.symm hylc), upd_ne (Ne.symm hlsc), upd_ne (Ne.symm hylc)] at hlc
    have keep : ∀ b o, H b = some o → b ≠ y → (upd (upd (upd (upd (upd H y (.ins CW dx (putF "formula" u []))) ls (.lst [])) y (.ins CW dx (putF "steps" (.ref ls) (putF "formula" u [])))) lc (.lst [])) y (.ins CW dx (putF "clauses" (.ref lc) (putF "steps" (.ref ls) (putF "formula" u []))))) b = some o := fun b o e hb => by
      rw [upd_ne hb, upd_ne (fun z => by rw [z, hlc0] at e; cases e), upd_ne hb, upd_ne (fun z => by rw [z, hls0] at e; cases e), upd_ne hb]
      exact e
    refine q _ ls lc keep hls0 hlc0 (fun b o e => keep b o (hs b o e) fun z => by rw [z, fy] at e; cases e) ⟨⟨dx, _, upd_same, ⟨u, ?_, iu⟩, ?_, ?_, ?_, ?_⟩, ⟨[], ?_, .nil, (fun _ h => by cases h), Nat.zero_le _⟩, ⟨[], ?_, .nil, (fun _ h => by cases h), Nat.zero_le _⟩, hs.free hls0, hs.free hlc0, hlsc⟩
    · rw [lookup_putF, if_neg (by decide), lookup_putF, if_neg (by decide), lookup_putF, if_pos rfl]
    · rw [lookup_putF, if_neg (by decide), lookup_putF, if_pos rfl]
    · rw [lookup_putF, if_pos rfl]
    · rw [lookup_putF, if_neg (by decide), lookup_putF, if_neg (by decide), lookup_putF, if_neg (by decide)]; rfl
    · rw [lookup_putF, if_neg (by decide), lookup_putF, if_neg (by decide), lookup_putF, if_neg (by decide)]; rfl
    · rw [upd_ne (Ne.symm hyls), upd_ne hlsc, upd_ne (Ne.symm hyls), upd_same]
    · rw [upd_ne (Ne.symm hylc), upd_same]
end
end Rb
/-! the maker: its state -/
namespace Rb
open PySem PySem.Spec L2
structure MAd where
  CM : Addr
  CW : Addr
  m : Addr
  w : Addr
  kd : Addr
  ls : Addr
  lc : Addr
structure Ws where
  ws : List Stp
  wcls : List (List Int)
  kn : List (Nat × Nat)
def kK (kn : List (Nat × Nat)) : List (Key × V) := kn.map fun p => (Sum.inl (p.1 : Int), V.int (p.2 : Nat))
def fsM (c : Mc) : List (Str × PyData) := [("half", fD c.n c.half), ("side", .int c.side), ("gate_values", .list (c.gv.map .bool)), ("circuit", .tuple (c.gs.map gD)), ("cube", cD c.cube), ("steps", .tuple (c.ss.map sD)), ("formula", fD c.n c.cs), ("place", .dict []), ("worked_out", .dict [])]
structure MkOk (c : Mc) (A : MAd) (st : Ws) (F H : Hp) : Prop where
  ex : ∃ dx vs, H A.m = some (.ins A.CM dx vs) ∧ (∀ f d, (fsM c).lookup f = some d → FldOk F vs f d) ∧ vs.lookup ("writer" : Str) = some (.ref A.w) ∧ vs.lookup ("known" : Str) = some (.ref A.kd)
  kn : H A.kd = some (.dK (kK st.kn))
  fk : F A.kd = none
  wr : WrOk A.CW c.n c.half A.w A.ls A.lc st.ws st.wcls F H
theorem MkOk.mono {c : Mc} {A : MAd} {st : Ws} {F H F' H' : Hp} (h : MkOk c A st F H) (g : Gw F H F' H') : MkOk c A st F' H' := by
  obtain ⟨⟨dx, vs, a1, a2, a3⟩, b1, b2, wr⟩ := h
  exact ⟨⟨dx, vs, g.hh _ _ a1, fun f d e => (a2 f d e).mono g.ff, a3⟩, g.hh _ _ b1, g.stays b2 b1, wr.mono g⟩
structure Mc.Inv (c : Mc) (st : Ws) (pl : Nat) : Prop where
  der : Der c.n c.half st.ws st.wcls
  nod : (st.kn.map (·.1)).Nodup
  kn : ∀ p ∈ st.kn, p.1 < c.ss.length ∧ ∃ x, st.wcls[p.2]? = some x ∧ Kept c p.1 x
  wid : ∀ x ∈ st.wcls, ∃ j, Kept c j x
  few : st.ws.length ≤ st.kn.length + pl
structure PPost (c : Mc) (st : Ws) (k : Nat) (pl : Nat) (st' : Ws) (i : Nat) : Prop where
  inv : c.Inv st' pl
  at_ : ∃ x, st'.wcls[i]? = some x ∧ Kept c k x
  old : ∀ p ∈ st.kn, p ∈ st'.kn
  new : ∀ p ∈ st'.kn, p ∈ st.kn ∨ p.1 + pl ≤ k
  pre : ∃ m, st'.wcls = st.wcls ++ m
def spPl (CM CW : Addr) (K : Nat) : Sp := fun vs H Q _ => ∃ (c : Mc) (A : MAd) (st : Ws) (k : Nat) (F0 H0 F : Hp), vs = [.ref A.m, .int k] ∧ c.Good ∧ A.CM = CM ∧ A.CW = CW ∧ MkOk c A st F H ∧ c.Inv st 0 ∧ Vis c k ∧ k ≤ K ∧ Gw F0 H0 F H ∧ H0 A.kd = none ∧ H0 A.ls = none ∧ H0 A.lc = none ∧
  ∀ st' i F' H', PPost c st k 0 st' i → Gw F0 H0 F' H' → Same F F' → MkOk c A st' F' H' → Q (.int (i : Nat)) H'
def spWo (CM CW : Addr) (K : Nat) : Sp := fun vs H Q _ => ∃ (c : Mc) (A : MAd) (st : Ws) (k : Nat) (F0 H0 F : Hp), vs = [.ref A.m, .int k] ∧ c.Good ∧ A.CM = CM ∧ A.CW = CW ∧ MkOk c A st F H ∧ c.Inv st 0 ∧ Vis c k ∧ k ≤ K ∧ Gw F0 H0 F H ∧ H0 A.kd = none ∧ H0 A.ls = none ∧ H0 A.lc = none ∧
  ∀ st' i F' H', PPost c st k 1 st' i → Gw F0 H0 F' H' → Same F F' → MkOk c A st' F' H' → Q (.int (i : Nat)) H'
structure MkCls (K : PySem.W.Frag) (C : Addr) : Prop where
  cls : Cls K C
  n1 : NoAttr K C "formula"
  n2 : NoAttr K C "steps"
  n3 : NoAttr K C "cube"
  n4 : NoAttr K C "circuit"
  n5 : NoAttr K C "gate_values"
  n6 : NoAttr K C "side"
  n7 : NoAttr K C "half"
  n8 : NoAttr K C "writer"
  n9 : NoAttr K C "known"
section
variable {c : Mc}
theorem fm_half : (fsM c).lookup ("half" : Str) = some (fD c.n c.half) := dk1
theorem fm_side : (fsM c).lookup ("side" : Str) = some (.int c.side) := by unfold fsM; rw [dk2 (by decide +kernel), dk1]
theorem fm_gv : (fsM c).lookup ("gate_values" : Str) = some (.list (c.gv.map .bool)) := by unfold fsM; rw [dk2 (by decide +kernel), dk2 (by decide +kernel), dk1]
theorem fm_cir : (fsM c).lookup ("circuit" : Str) = some (.tuple (c.gs.map gD)) := by unfold fsM; rw [dk2 (by decide +kernel), dk2 (by decide +kernel), dk2 (by decide +kernel), dk1]
theorem fm_cube : (fsM c).lookup ("cube" : Str) = some (cD c.cube) := by unfold fsM; rw [dk2 (by decide +kernel), dk2 (by decide +kernel), dk2 (by decide +kernel), dk2 (by decide +kernel), dk1]
theorem fm_steps : (fsM c).lookup ("steps" : Str) = some (.tuple (c.ss.map sD)) := by unfold fsM; rw [dk2 (by decide +kernel), dk2 (by decide +kernel), dk2 (by decide +kernel), dk2 (by decide +kernel), dk2 (by decide +kernel), dk1]
theorem fm_for : (fsM c).lookup ("formula" : Str) = some (fD c.n c.cs) := by unfold fsM; rw [dk2 (by decide +kernel), dk2 (by decide +kernel), dk2 (by decide +kernel), dk2 (by decide +kernel), dk2 (by decide +kernel), dk2 (by decide +kernel), dk1]
theorem fm_place : (fsM c).lookup ("place" : Str) = some (.dict []) := by unfold fsM; rw [dk2 (by decide +kernel), dk2 (by decide +kernel), dk2 (by decide +kernel), dk2 (by decide +kernel), dk2 (by decide +kernel), dk2 (by decide +kernel), dk2 (by decide +kernel), dk1]
theorem fm_wo : (fsM c).lookup ("worked_out" : Str) = some (.dict []) := by unfold fsM; rw [dk2 (by decide +kernel), dk2 (by decide +kernel), dk2 (by decide +kernel), dk2 (by decide +kernel), dk2 (by decide +kernel), dk2 (by decide +kernel), dk2 (by decide +kernel), dk2 (by decide +kernel), dk1]
end
/-- within a method of it -/
structure MSt (c : Mc) (A : MAd) (st : Ws) (ρ : List Sl) (σ : St) (F H : Hp) : Prop where
  ok : MkOk c A st F H
  rep : Rep H (.obj A.m A.CM (fsM c) :: ρ) σ F H
theorem MSt.to {c : Mc} {A : MAd} {st st' : Ws} {ρ : List Sl} {σ : St} {F H F' H' : Hp} (h : MSt c A st ρ σ F H) (hp : ∀ s ∈ ρ, s.plain = true) (e : Same F F') (mk : MkOk c A st' F' H') : MSt c A st' ρ σ F' H' := by
  obtain ⟨dx, vs, a1, a2, _⟩ := mk.ex
  exact ⟨mk, h.rep.withObj hp e a1 a2⟩
theorem MSt.mono {c : Mc} {A : MAd} {st : Ws} {ρ : List Sl} {σ : St} {F H F' H' : Hp} (h : MSt c A st ρ σ F H) (hp : ∀ s ∈ ρ, s.plain = true) (g : Gw F H F' H') : MSt c A st ρ σ F' H' := h.to hp g.ff (h.ok.mono g)
theorem MSt.slf {c : Mc} {A : MAd} {st : Ws} {ρ : List Sl} {σ : St} {F H : Hp} (h : MSt c A st ρ σ F H) : σ[0]? = some (some (.ref A.m)) := (obj_adr (n := 0) h.rep rfl).1
theorem MSt.set {c : Mc} {A : MAd} {st : Ws} {ρ : List Sl} {σ : St} {F H : Hp} {n : Nat} {d : PyData} {v : V} (h : MSt c A st ρ σ F H) (i : Is F v d) : MSt c A st (ρ.set n (.dat d)) (σ.set (n + 1) (some v)) F H := ⟨h.ok, h.rep.setD (i := n + 1) i⟩
section
variable {X : Cx} {ρ : List Sl} {e elt tg it : Expr} {d : PyData} {es : List Expr} {ds : List PyData}
theorem DA.fr (h : DA X ρ es (fun x => x = ds.map .dat)) : PA X es (fun σ H Q => ∃ F, Same F H ∧ Rep H ρ σ F H ∧ ∀ vs F' H', Gw F H F' H' → ArOk H F' H' vs (ds.map .dat) → Q vs H') :=
  PA.weak h fun σ H Q ⟨F, s, r, q⟩ => ⟨F, H, F, Gw.refl s, r, fun vs as F' H' hd g _ _ i => q vs F' H' g (hd ▸ i)⟩
theorem lc_fr [fx : Fx X sc N k] {ifs : List Expr} {scope : Scope} {lpos pos p1 : Pos} {x : Str} (n : Nat) (hN : N[n]? = some x) (h : LcOk X ρ elt tg e ifs scope (fun y => y = d)) (hw : swB sc scope x = true := by decide +kernel) (hl : (p1.line == lpos.line) = true := by rfl) (hs : ∀ x, foldedSetIterable e X.env x = pure x := by intro _; rfl) :
    PS X (.Assign [.Name x p1] (.ListComp elt [⟨tg, e, ifs, 0⟩] scope lpos) pos) (fun D σ H => ∃ F, Same F H ∧ Rep H ρ σ F H ∧ ∀ v F' H', Gw F H F' H' → Is F' v d → D.nx (σ.set n (some v)) H') := by
  obtain ⟨own, wi, g, tt, te, h1, h2, h3, h4, h5, h6⟩ := h.ex
  unfold swB at hw
  rw [Bool.and_eq_true] at hw
  have hlo : X.env.scope.names.lookup x = some .local := by
    rw [fx.hsc]
    have := hw.1
    split at this <;> first | assumption | cases this
  refine PS.weak (ps_setLc (i := n) fx.calm (by rw [fx.hN]; exact fx.nd) (by rw [fx.hN]; exact hN) hlo (sw_true fx.kind hlo hl (by simpa using hw.2)) h1 h2 h3 h4 h5 hs) fun D σ H ⟨F, s, r, q⟩ => ?_
  exact h6 σ H (fun x H1 => gName n x σ H1 D.nx) ⟨F, H, F, Gw.refl s, r, fun v d' F' H' hd g _ _ i => q v F' H' g (hd ▸ i)⟩
end
end Rb
/-! the maker: place -/
namespace Rb
open PySem PySem.Spec L2
theorem kK_none {kn : List (Nat × Nat)} {k : Nat} (h : k ∉ kn.map (·.1)) : valV (kK kn) (.inl (k : Int)) = none := by
  induction kn with
  | nil => rfl
  | cons p kn ih =>
    unfold kK at *
    rw [List.map_cons, List.mem_cons, not_or] at h
    rw [List.map_cons, valV_neg (fun e => h.1 (by have := Sum.inl.inj e; omega)), ih h.2]
theorem kK_get {kn : List (Nat × Nat)} {k i : Nat} (hn : (kn.map (·.1)).Nodup) (h : (k, i) ∈ kn) : valV (kK kn) (.inl (k : Int)) = some (.int (i : Nat)) := by
  induction kn with
  | nil => cases h
  | cons p kn ih =>
    rw [List.map_cons, List.nodup_cons] at hn
    unfold kK at *
    rw [List.map_cons]
    rcases List.mem_cons.mp h with rfl | h
    · exact valV_pos rfl
    · have hne : ¬ p.1 = k := fun e => hn.1 (by rw [e]; exact List.mem_map.mpr ⟨(k, i), h, rfl⟩)
      rw [valV_neg (fun e => hne (by have := Sum.inl.inj e; omega)), ih hn.2 h]
theorem kK_put {kn : List (Nat × Nat)} {k i : Nat} (h : k ∉ kn.map (·.1)) : putK (kK kn) (.inl (k : Int)) (.int (i : Nat)) = kK (kn ++ [(k, i)]) := by
  unfold putK
  rw [valV_any, kK_none h, if_neg (by simp)]
  unfold kK
  rw [List.map_append]
  rfl
theorem Mc.Inv.knlen {c : Mc} {st : Ws} {pl : Nat} (h : c.Inv st pl) : st.kn.length ≤ c.ss.length := by
  have := nodup_lt h.nod (m := c.ss.length) fun u hu => by obtain ⟨p, hp, rfl⟩ := List.mem_map.mp hu; exact (h.kn p hp).1
  rwa [List.length_map] at this
section
variable {X : Cx} {k : Nat} {CM CW : Addr}
theorem b_place (K0 : Nat) (KM : MkCls X.K CM) [fx : Fx X (defScope sM_RisingMaker_place) nM_RisingMaker_place k] [Fl X] (hk : 8 + 2 * K0 ≤ k) (hw : Ms X (8 + 2 * K0) CM "worked_out" (spWo CM CW K0)) (vs : List V) (H : Hp) (Q : VK) (E : XK) (h : spPl CM CW K0 vs H Q E) :
    ∃ t, PSs X (defBody sM_RisingMaker_place) t ∧ t { nx := fun _ H' => Q .non H', rt := Q } (L2.start nM_RisingMaker_place vs) H := by
  obtain ⟨c, A, st, y, F0, H0, F, rfl, good, rfl, rfl, mk, inv, vis, hy, g, z1, z2, z3, q⟩ := h
  obtain ⟨v1, v2, v3⟩ := vis_of (X := X) (x := "self") fx.hsc (by decide +kernel)
  obtain ⟨w1, w2, w3⟩ := vis_of (X := X) (x := "k") fx.hsc (by decide +kernel)
  have ev := fun p => pe_var (X := X) (pos := p) (i := 0) (x := "self") (by rw [fx.hN]; rfl) v1 v2 v3
  have ek := fun p => pe_var (X := X) (pos := p) (i := 1) (x := "k") (by rw [fx.hN]; rfl) w1 w2 w3
  have hu : X.A.units + 1 < cLine := Nat.lt_of_le_of_lt (Nat.add_le_add_left (by decide : 1 ≤ 64) _) fx.room.units
  obtain ⟨mf, mfd, mps, mc, mm, mF, mb⟩ := hw.ex
  refine ⟨_, pss_cons (ps_if (pt_cmp (pc_dnotin hu (ek _) (pe_fld (ev _) rfl)) rfl) (pss_cons (ps_dput hu (pe_fld (ev _) rfl) (ek _) (pe_meth (pl := _) (ev _) mc mm mF (fx.room.mono hk) mb (.nil : Vals [] []) pass0 (pa_cons (ek _) pa_nil) rfl rfl rfl) rfl) pss_nil) pss_nil)
    (pss_cons (ps_ret (pe_dget hu (pe_fld (ev _) rfl) (ek _) (fun _ _ => rfl))) pss_nil), ?_⟩
  obtain ⟨dx, fvs, a1, a2, a3, a4⟩ := mk.ex
  refine ⟨_, rfl, _, rfl, A.m, A.CM, dx, fvs, .ref A.kd, rfl, a1, KM.cls, KM.n9, a4, A.kd, valV (kK st.kn) (.inl (y : Int)), rfl, DGet.k (k := .inl (y : Int)) mk.kn, _, rfl, ?_⟩
  -- the end: the place is known
  have fin : ∀ (st' : Ws) (i : Nat) (F' H' : Hp), PPost c st y 0 st' i → (y, i) ∈ st'.kn → Gw F0 H0 F' H' → Same F F' → MkOk c A st' F' H' → ∀ D : Ends, D.rt = Q → tRet (tDGet (tFld X.K (tVar 0) "known") (tVar 1)) D (L2.start nM_RisingMaker_place [.ref A.m, .int y]) H' := fun st' i F' H' po hin g' s' mk' D hD => by
    obtain ⟨dx', fvs', e1, e2, e3, e4⟩ := mk'.ex
    refine ⟨_, rfl, A.m, A.CM, dx', fvs', .ref A.kd, rfl, e1, KM.cls, KM.n9, e4, _, rfl, A.kd, .int (i : Nat), rfl, by rw [← kK_get po.inv.nod hin]; exact DGet.k (k := .inl (y : Int)) mk'.kn, ?_⟩
    rw [hD]
    exact q st' i F' H' po g' s' mk'
  by_cases hin : y ∈ st.kn.map (·.1)
  · obtain ⟨⟨y', i⟩, hp, rfl⟩ := List.mem_map.mp hin
    rw [kK_get inv.nod hp]
    refine iteF ?_
    exact fin st i F H ⟨inv, (inv.kn _ hp).2, fun p h => h, fun p h => .inl h, [], by simp⟩ hp g (Same.refl _) mk _ rfl
  · rw [kK_none hin]
    refine iteT ?_
    have hwo : fvs.lookup ("worked_out" : Str) = none := a2 _ _ fm_wo
    refine ⟨_, rfl, A.m, dx, fvs, rfl, a1, hwo, _, rfl, c, A, st, y, F0, H0, F, rfl, good, rfl, rfl, mk, inv, vis, hy, g, z1, z2, z3, fun st' i F' H' po g' s' mk' => ?_⟩
    obtain ⟨dx', fvs', e1, e2, e3, e4⟩ := mk'.ex
    have hnk : y ∉ st'.kn.map (·.1) := fun hh => by
      obtain ⟨p, hp, e⟩ := List.mem_map.mp hh
      rcases po.new p hp with h | h
      · exact hin (by rw [← e]; exact List.mem_map_of_mem h)
      · omega
    have hkd : (A.m : Addr) ≠ A.kd := fun e => by
      have := mk'.kn
      rw [← e, e1] at this
      cases this
    refine ⟨_, rfl, A.m, A.CM, dx', fvs', .ref A.kd, rfl, e1, KM.cls, KM.n9, e4, _, rfl, A.kd, _, rfl, DPut.k (k := .inl (y : Int)) mk'.kn (by unfold kK; rw [List.length_map, sizeLine_eq]; have := po.inv.knlen; have := good.few; omega), ?_⟩
    rw [kK_put hnk]
    obtain ⟨x, hx1, hx2⟩ := po.at_
    let st2 : Ws := ⟨st'.ws, st'.wcls, st'.kn ++ [(y, i)]⟩
    have inv2 : c.Inv st2 0 := by
      refine ⟨po.inv.der, ?_, fun p hp => ?_, po.inv.wid, ?_⟩
      · show ((st'.kn ++ [(y, i)]).map (·.1)).Nodup
        rw [List.map_append, List.nodup_append]
        refine ⟨po.inv.nod, by simp, fun a ha b hb e => hnk ?_⟩
        have e2 : b = y := by simpa using hb
        rw [← e2, ← e]
        exact ha
      · rcases List.mem_append.mp hp with h | h
        · exact po.inv.kn p h
        · rw [List.mem_singleton.mp h]; exact ⟨vis.1, x, hx1, hx2⟩
      · show st'.ws.length ≤ (st'.kn ++ [(y, i)]).length + 0
        have := po.inv.few
        rw [List.length_append, List.length_singleton]; omega
    have kdls : A.kd ≠ A.ls := fun e => by
      obtain ⟨us, h1, _⟩ := mk'.wr.st
      rw [← e, mk'.kn] at h1
      cases h1
    have kdlc : A.kd ≠ A.lc := fun e => by
      obtain ⟨us, h1, _⟩ := mk'.wr.cl
      rw [← e, mk'.kn] at h1
      cases h1
    have kdw : A.kd ≠ A.w := fun e => by
      obtain ⟨dx2, fv2, h1, _⟩ := mk'.wr.ex
      rw [← e, mk'.kn] at h1
      cases h1
    have mk2 : MkOk c A st2 F' (upd H' A.kd (.dK (kK st2.kn))) := by
      obtain ⟨⟨dx2, fv2, h1, h2⟩, ⟨us, h3, h4⟩, ⟨us2, h5, h6⟩, h7, h8, h9⟩ := mk'.wr
      exact ⟨⟨dx', fvs', by rw [upd_ne hkd]; exact e1, e2, e3, e4⟩, upd_same, mk'.fk, ⟨⟨dx2, fv2, by rw [upd_ne (Ne.symm kdw)]; exact h1, h2⟩, ⟨us, by rw [upd_ne (Ne.symm kdls)]; exact h3, h4⟩, ⟨us2, by rw [upd_ne (Ne.symm kdlc)]; exact h5, h6⟩, h7, h8, h9⟩⟩
    exact fin st2 i F' _ ⟨inv2, ⟨x, hx1, hx2⟩, fun p h => List.mem_append_left _ (po.old p h), fun p h => by
      rcases List.mem_append.mp h with h | h
      · rcases po.new p h with h | h
        · exact .inl h
        · exact .inr (by omega)
      · rw [List.mem_singleton.mp h]; exact .inr (Nat.le_refl _), po.pre⟩ (List.mem_append_right _ (List.mem_singleton.mpr rfl)) (g'.put z1 mk'.fk) s' mk2 _ rfl
end
end Rb
/-! the maker: worked_out -/
namespace Rb
open PySem PySem.Spec L2
theorem Mc.Inv.up {c : Mc} {st : Ws} (h : c.Inv st 0) : c.Inv st 1 := ⟨h.der, h.nod, h.kn, h.wid, Nat.le_succ_of_le h.few⟩
/-- a place for a step before stands for this one -/
theorem PPost.down {c : Mc} {st st' : Ws} {k t i : Nat} (h : PPost c st t 0 st' i) (ht : t < k) (hk : ∀ x, Kept c t x → Kept c k x) : PPost c st k 1 st' i :=
  ⟨h.inv.up, let ⟨x, a, b⟩ := h.at_; ⟨x, a, hk x b⟩, h.old, fun p hp => (h.new p hp).imp id fun e => by omega, h.pre⟩
theorem gv_len (c : Mc) : c.gv.length = c.ss.length := by unfold Mc.gv Mc.gs gatesOf; rw [gvals_len, List.length_map]
theorem Mc.val_at (c : Mc) (h : 0 < c.ss.length) : c.gv.getLast? = some c.val := by
  unfold Mc.val
  cases q : c.gv.getLast? with
  | none =>
    rw [List.getLast?_eq_none_iff] at q
    have := gv_len c
    rw [q] at this
    simp at this
    omega
  | some b => rfl
/-- what the calls of a method find -/
structure WoC (X : Cx) (CM CW : Addr) (K0 k : Nat) : Prop where
  km : MkCls X.K CM
  add : Ms X 6 CW "add" (spAdd CW)
  res : Ms X 7 CW "resolve" (spRes CW)
  left : Hs X "left_over" 1 pLeft
  place : ∀ K1, K0 = K1 + 1 → 9 + 2 * K1 ≤ k ∧ Ms X (9 + 2 * K1) CM "place" (spPl CM CW K1)
  lev : 7 ≤ k
section
variable {X : Cx} {k : Nat} {CM CW : Addr}
abbrev rhoW (y : Nat) (s : Stp) (g : Gt) (d4 d5 d6 : Sl) : List Sl := [.dat (.int y), .dat (sD s), .dat (gD g), d4, d5, d6, .any]
theorem rhoW_plain {y : Nat} {s : Stp} {g : Gt} {d4 d5 d6 : Sl} (h4 : d4.plain = true) (h5 : d5.plain = true) (h6 : d6.plain = true) : ∀ x ∈ rhoW y s g d4 d5 d6, x.plain = true := fun x hx => by
  simp only [List.mem_cons, List.not_mem_nil, or_false] at hx
  rcases hx with rfl | rfl | rfl | rfl | rfl | rfl | rfl <;> first | rfl | assumption
/-- return self.place(e): what it tells -/
theorem rd_place {c : Mc} {A : MAd} {st : Ws} {ρ : List Sl} {σ : St} {F0 H0 F H : Hp} {K1 t : Nat} {Q : VK} (hp : ∀ s ∈ ρ, s.plain = true) (good : c.Good) (S : MSt c A st ρ σ F H) (inv : c.Inv st 0) (vis : Vis c t) (ht : t ≤ K1) (g : Gw F0 H0 F H) (z1 : H0 A.kd = none) (z2 : H0 A.ls = none) (z3 : H0 A.lc = none)
    (q : ∀ st' i F' H', PPost c st t 0 st' i → Gw F0 H0 F' H' → Same F F' → MSt c A st' ρ σ F' H' → Q (.int (i : Nat)) H') :
    tMeth A.CM "place" (spPl A.CM A.CW K1) [] E0 (tVar 0) (tCons (fun σ H Q => ∃ F, Same F H ∧ Rep H (.obj A.m A.CM (fsM c) :: ρ) σ F H ∧ ∀ v F' H', Gw F H F' H' → Is F' v (.int (t : Nat)) → Q v H') tNil) σ H Q := by
  obtain ⟨dx, fvs, a1, a2, a3, a4⟩ := S.ok.ex
  refine ⟨_, S.slf, A.m, dx, fvs, rfl, a1, a2 _ _ fm_place, F, g.fh, S.rep, fun v F1 H1 g1 i1 => ?_⟩
  rw [i1.int_inv]
  have S1 := S.mono hp g1
  exact ⟨c, A, st, t, F0, H0, F1, rfl, good, rfl, rfl, S1.ok, inv, vis, ht, g.trans g1, z1, z2, z3, fun st' i F' H' po g' s' mk' => q st' i F' H' po g' (g1.ff.trans s') (S1.to hp s' mk')⟩
/-- step, gate = .. -/
theorem ps_first {c : Mc} {A : MAd} {y : Nat} {s : Stp} {gt : Gt} [fx : Fx X (defScope sM_RisingMaker_worked_out) nM_RisingMaker_worked_out k] (KM : MkCls X.K A.CM) (hs : c.ss[y]? = some s) (hg : c.gs[y]? = some gt) :
    PS X ((defBody sM_RisingMaker_worked_out).headD (.Pass ⟨0, 0, 0, 0⟩)) (tPar 2 3 (fun σ H Q => ∃ F, Same F H ∧ Rep H (.obj A.m A.CM (fsM c) :: [.dat (.int y), .any, .any, .any, .any, .any, .any]) σ F H ∧ ∀ vs F' H', Gw F H F' H' → ArOk H F' H' vs ([sD s, gD gt].map .dat) → Q vs H')) := by
  have hx : X.env.scope.names.lookup ("step" : Str) = some .local := by rw [fx.hsc]; decide +kernel
  have hy : X.env.scope.names.lookup ("gate" : Str) = some .local := by rw [fx.hsc]; decide +kernel
  have hb : X.env.blockKind = .function := by unfold Env.blockKind; rw [fx.kind]; rfl
  have kx : X.env.kindOf "step" = some .local := hx
  have ky : X.env.kindOf "gate" = some .local := hy
  refine ps_par (i := 2) (j := 3) fx.calm (by rw [fx.hN]; exact fx.nd) (by rw [fx.hN]; rfl) (by rw [fx.hN]; rfl) (by decide) hx hy (DA.fr (ds := [sD s, gD gt]) (a_d (e_ixT (e_fld 0 rfl rfl KM.cls KM.n2 fm_steps) (e_v 1 rfl rfl) ?_) (a_d (e_ixT (e_fld 0 rfl rfl KM.cls KM.n4 fm_cir) (e_v 1 rfl rfl) ?_) a_nil))) ?_
  · rw [atI_map, atI_nn hs]; rfl
  · rw [atI_map, atI_nn hg]; rfl
  · unfold swappedStores
    simp only [hb, kx, ky, List.filterMap_cons, List.filterMap_nil]
    rfl
end
end Rb
/-! the maker: worked_out, axioms and weakenings -/
namespace Rb
open PySem PySem.Spec L2
structure Ch (st0 st : Ws) (k : Nat) : Prop where
  old : ∀ p ∈ st0.kn, p ∈ st.kn
  new : ∀ p ∈ st.kn, p ∈ st0.kn ∨ p.1 + 1 ≤ k
  pre : ∃ m, st.wcls = st0.wcls ++ m
theorem Ch.refl {st : Ws} {k : Nat} : Ch st st k := ⟨fun p h => h, fun p h => .inl h, [], by simp⟩
theorem Ch.step {c : Mc} {st0 st st' : Ws} {k t i : Nat} (h : Ch st0 st k) (p : PPost c st t 0 st' i) (ht : t < k) : Ch st0 st' k :=
  ⟨fun x hx => p.old x (h.old x hx), fun x hx => by
    rcases p.new x hx with q | q
    · exact h.new x q
    · exact .inr (by omega), by
    obtain ⟨m1, e1⟩ := h.pre
    obtain ⟨m2, e2⟩ := p.pre
    exact ⟨m1 ++ m2, by rw [e2, e1, List.append_assoc]⟩⟩
theorem PPost.stay {c : Mc} {st0 st : Ws} {k i : Nat} {x : List Int} (h : Ch st0 st k) (inv : c.Inv st 0) (hx : st.wcls[i]? = some x) (hk : Kept c k x) : PPost c st0 k 1 st i := ⟨inv.up, ⟨x, hx, hk⟩, h.old, h.new, h.pre⟩
theorem PPost.add {c : Mc} {st0 st : Ws} {k : Nat} {s : Stp} {x : List Int} (h : Ch st0 st k) (inv : c.Inv st 0) (hf : Fits c.n c.half st.wcls s x) (hk : Kept c k x) : PPost c st0 k 1 ⟨st.ws ++ [s], st.wcls ++ [x], st.kn⟩ st.ws.length := by
  have hl := inv.der.1
  refine ⟨⟨inv.der.snoc hf, inv.nod, fun p hp => ?_, fun y hy => ?_, ?_⟩, ⟨x, ?_, hk⟩, h.old, h.new, ?_⟩
  · obtain ⟨a, y, b, d⟩ := inv.kn p hp
    refine ⟨a, y, ?_, d⟩
    show (st.wcls ++ [x])[p.2]? = some y
    rw [List.getElem?_append_left (List.getElem?_eq_some_iff.mp b).1]; exact b
  · rcases List.mem_append.mp hy with q | q
    · exact inv.wid y q
    · rw [List.mem_singleton.mp q]; exact ⟨k, hk⟩
  · show (st.ws ++ [s]).length ≤ st.kn.length + 1
    have := inv.few
    rw [List.length_append, List.length_singleton]; omega
  · show (st.wcls ++ [x])[st.ws.length]? = some x
    rw [← hl, List.getElem?_append_right (Nat.le_refl _), Nat.sub_self]; rfl
  · obtain ⟨m, e⟩ := h.pre
    exact ⟨m ++ [x], by show st.wcls ++ [x] = _; rw [e, List.append_assoc]⟩
abbrev woW (A : MAd) (H : Hp) : Hp := wo (wo H A.ls) A.lc
theorem woW_same {A : MAd} {H : Hp} : Same (woW A H) H := fun b o e => wo_same b o (wo_same b o e)
theorem woW_get {A : MAd} {H : Hp} {b : Addr} (h1 : b ≠ A.ls) (h2 : b ≠ A.lc) : woW A H b = H b := by show wo (wo H A.ls) A.lc b = _; rw [wo_ne h2, wo_ne h1]
theorem woW_ls {A : MAd} {H : Hp} : woW A H A.ls = none := by
  show wo (wo H A.ls) A.lc A.ls = none
  by_cases h : A.ls = A.lc
  · rw [h]; exact wo_self
  · rw [wo_ne h]; exact wo_self
theorem woW_lc {A : MAd} {H : Hp} : woW A H A.lc = none := wo_self
theorem Gw.part {F H Hs : Hp} (s : Same F H) (h : Same Hs H) : Gw F Hs F H := ⟨h, Same.refl _, s, fun _ _ e => .inl e⟩
/-- behind a call of the writer -/
theorem MkOk.after {c : Mc} {A : MAd} {st : Ws} {F H F' H' : Hp} {ws : List Stp} {wcls : List (List Int)} (mk : MkOk c A st F H) (g : Gw F (woW A H) F' H') (wr : WrOk A.CW c.n c.half A.w A.ls A.lc ws wcls F' H') : MkOk c A ⟨ws, wcls, st.kn⟩ F' H' := by
  obtain ⟨⟨dx, vs, a1, a2, a3⟩, b1, b2, wr0⟩ := mk
  obtain ⟨us, c1, _⟩ := wr0.st
  obtain ⟨us2, c2, _⟩ := wr0.cl
  have m1 : A.m ≠ A.ls := fun e => by rw [e, c1] at a1; cases a1
  have m2 : A.m ≠ A.lc := fun e => by rw [e, c2] at a1; cases a1
  have k1 : A.kd ≠ A.ls := fun e => by rw [e, c1] at b1; cases b1
  have k2 : A.kd ≠ A.lc := fun e => by rw [e, c2] at b1; cases b1
  have hm : woW A H A.m = some (.ins A.CM dx vs) := by rw [woW_get m1 m2]; exact a1
  have hk : woW A H A.kd = some (.dK (kK st.kn)) := by rw [woW_get k1 k2]; exact b1
  exact ⟨⟨dx, vs, g.hh _ _ hm, fun f d e => (a2 f d e).mono g.ff, a3⟩, g.hh _ _ hk, g.stays b2 hk, wr⟩
theorem h0_woW {A : MAd} {F0 H0 F H : Hp} (g : Gw F0 H0 F H) (z2 : H0 A.ls = none) (z3 : H0 A.lc = none) : Same H0 (woW A H) := fun b o e => by
  rw [woW_get (fun q => by rw [q, z2] at e; cases e) (fun q => by rw [q, z3] at e; cases e)]
  exact g.hh _ _ e
section
variable {X : Cx} {k : Nat} {CM CW : Addr}
theorem WoT_ax (K0 : Nat) (W : WoC X CM CW K0 k) [fx : Fx X (defScope sM_RisingMaker_worked_out) nM_RisingMaker_worked_out k] [fl : Fl X] {c : Mc} {A : MAd} {st : Ws} {y i : Nat} {F0 H0 F H : Hp} {Q : VK} (good : c.Good) (e1 : A.CM = CM) (e2 : A.CW = CW) (mk : MkOk c A st F H) (inv : c.Inv st 0) (vis : Vis c y) (hs : c.ss[y]? = some (.ax i)) (g : Gw F0 H0 F H) (z1 : H0 A.kd = none) (z2 : H0 A.ls = none) (z3 : H0 A.lc = none)
    (q : ∀ st' i F' H', PPost c st y 1 st' i → Gw F0 H0 F' H' → Same F F' → MkOk c A st' F' H' → Q (.int (i : Nat)) H') :
    ∃ t, PSs X (defBody sM_RisingMaker_worked_out) t ∧ t { nx := fun _ H' => Q .non H', rt := Q } (L2.start nM_RisingMaker_worked_out [.ref A.m, .int y]) H := by
  subst e1 e2
  obtain ⟨v1, v2, v3⟩ := vis_of (X := X) (x := "self") fx.hsc (by decide +kernel)
  have ev := fun p => pe_var (X := X) (pos := p) (i := 0) (x := "self") (by rw [fx.hN]; rfl) v1 v2 v3
  obtain ⟨mf, mfd, mps, mc, mm, mF, mb⟩ := W.add.ex
  have hg := gs_get hs
  generalize hgt : needG (gateOf c.cs c.div (.ax i)) = gt at hg
  obtain ⟨hin, hkept⟩ := vis_ax good hs vis
  have hci : c.cs[i]? = some (c.C y) := good.at hs
  have hix := idxOf_first hin
  generalize hx : leftOver (c.C y) c.cube = x at hin hkept hix
  have KM := W.km
  let ρ1 := rhoW y (.ax i) gt .any .any .any
  let ρ2 := rhoW y (.ax i) gt (.dat (cD x)) .any .any
  refine ⟨_, pss_cons (ps_first (A := A) KM hs hg) (pss_cons (ps_if (DT.fr (ρ := .obj A.m A.CM (fsM c) :: ρ1) (t_T (t_eqS (e_ixT (e_v 2 rfl rfl) e_int rfl) e_str) (by decide +kernel)))
    (pss_cons (ps_set (i := 4) (by rw [fx.hN]; exact fx.nd) (by rw [fx.hN]; rfl) (loc_of fx.hsc (by decide +kernel)) (DE.fr (ρ := .obj A.m A.CM (fsM c) :: ρ1) (d := cD x) (DE.to (e_call W.left (c.C y, c.cube) (a_d (e_ixT (e_ixT (e_fld 0 rfl rfl KM.cls KM.n1 fm_for) e_int rfl) (e_ixT (e_v 2 rfl rfl) e_int rfl) (at_get hci)) (a_d (e_fld 0 rfl rfl KM.cls KM.n3 fm_cube) a_nil)) trivial (by have := W.lev; omega)) (by show cD (leftOver (c.C y) c.cube) = _; rw [hx]))) rfl (.inl (fl.fn _)))
      (pss_cons (ps_ret (pe_meth (pl := _) (pe_fld (ev _) rfl) mc mm mF (fx.room.mono (by have := W.lev; omega)) mb (.nil : Vals [] []) pass0
        (pa_cons (DE.fr (ρ := .obj A.m A.CM (fsM c) :: ρ2) (d := sD (.ax (c.half.idxOf x))) (e_tup (ds := [.str "axiom", .int (c.half.idxOf x : Nat)]) (a_d e_str (a_d (e_idx (cs := c.half) (cc := x) (e_ixT (e_fld 0 rfl rfl KM.cls KM.n7 fm_half) e_int rfl) (e_v 4 rfl rfl) hix.1 hix.2) a_nil)))) pa_nil) rfl rfl rfl)) pss_nil)) pss_nil) pss_false), ?_⟩
  obtain ⟨dx, fvs, a1, a2, a3, a4⟩ := id mk.ex
  have R0 : Rep H (.obj A.m A.CM (fsM c) :: [.dat (.int y), .any, .any, .any, .any, .any, .any]) (L2.start nM_RisingMaker_worked_out [.ref A.m, .int y]) F H := rep_two (N := nM_RisingMaker_worked_out) (ds := [.int y]) ⟨dx, fvs, a1, a2⟩ (.cons ⟨_, rfl, is_int⟩ .nil)
  refine ⟨F, g.fh, R0, fun vs F1 H1 g1 i1 => ?_⟩
  cases i1 with
  | @cons u1 _ _ _ i1 i2 =>
    cases i2 with
    | @cons u2 _ _ _ i2 i3 =>
      cases i3
      obtain ⟨_, eu1, i1⟩ := i1
      cases eu1
      obtain ⟨_, eu2, i2⟩ := i2
      cases eu2
      refine ⟨_, _, rfl, ?_⟩
      have S0 : MSt c A st [.dat (.int y), .any, .any, .any, .any, .any, .any] _ F H := ⟨mk, R0⟩
      have S1 : MSt c A st ρ1 _ F1 H1 := ((S0.mono (by intro s hs; simp at hs; rcases hs with rfl | rfl <;> rfl) g1).set (n := 1) i1).set (n := 2) i2
      have hp1 : ∀ s ∈ ρ1, s.plain = true := rhoW_plain rfl rfl rfl
      refine ⟨F1, g1.fh, S1.rep, fun F2 H2 g2 => ?_⟩
      refine iteT ?_
      have S2 := S1.mono hp1 g2
      refine ⟨F2, g2.fh, S2.rep, fun u3 F3 H3 g3 i3 => ?_⟩
      have S3 : MSt c A st ρ2 _ F3 H3 := (S2.mono hp1 g3).set (n := 3) i3
      have hp2 : ∀ s ∈ ρ2, s.plain = true := rhoW_plain rfl rfl rfl
      obtain ⟨dx3, fv3, b1, b2, b3, b4⟩ := S3.ok.ex
      obtain ⟨dxw, fvw, w1, _, _, _, w5, _⟩ := S3.ok.wr.ex
      refine ⟨_, S3.slf, A.m, A.CM, dx3, fv3, .ref A.w, rfl, b1, KM.cls, KM.n8, b3, A.w, dxw, fvw, rfl, w1, w5, F3, g3.fh, S3.rep, fun u4 F4 H4 g4 i4 => ?_⟩
      have S4 := S3.mono hp2 g4
      have g04 : Gw F0 H0 F4 H4 := g.trans (g1.trans (g2.trans (g3.trans g4)))
      have hlen := inv.der.1
      have hkl := inv.knlen
      have hfew := inv.few
      have := good.few
      have hil : c.half.idxOf x < c.half.length := List.idxOf_lt_length_of_mem hin
      refine ⟨⟨c.n, c.half, A.w, A.ls, A.lc, st.ws, st.wcls⟩, .ax (c.half.idxOf x), x, u4, F4, woW A H4, F4, rfl, i4, S4.ok.wr, hil, ?_, by show st.ws.length ≤ 1000; omega, hlen, Gw.part g4.fh woW_same, woW_ls, woW_lc, fun F5 H5 g5 s5 k5 wr5 => ?_⟩
      · show c.half[c.half.idxOf x]? = some x
        rw [List.getElem?_eq_getElem hil, List.getElem_idxOf hil]
      · have mk5 := S4.ok.after g5 wr5
        have po := PPost.add (c := c) (k := y) (s := .ax (c.half.idxOf x)) (x := x) Ch.refl inv (by show c.half[c.half.idxOf x]? = some x; rw [List.getElem?_eq_getElem hil, List.getElem_idxOf hil]) hkept
        exact q _ _ F5 H5 po (g04.via (h0_woW g04 z2 z3) g5) (g1.ff.trans (g2.ff.trans (g3.ff.trans (g4.ff.trans g5.ff)))) mk5
end
end Rb
/-! the maker: worked_out, weakenings and common variables -/
namespace Rb
open PySem PySem.Spec L2
section
variable {X : Cx} {k : Nat} {CM CW : Addr}
/-- behind the first statement -/
theorem wo_start {c : Mc} {A : MAd} {st : Ws} {y : Nat} {s : Stp} {gt : Gt} {F H : Hp} {D : Ends} {rest : TS} (mk : MkOk c A st F H) (hs : Same F H)
    (h : ∀ σ F1 H1, Gw F H F1 H1 → MSt c A st (rhoW y s gt .any .any .any) σ F1 H1 → rest D σ H1) :
    tSeq (tPar 2 3 (fun σ H Q => ∃ F, Same F H ∧ Rep H (.obj A.m A.CM (fsM c) :: [.dat (.int y), .any, .any, .any, .any, .any, .any]) σ F H ∧ ∀ vs F' H', Gw F H F' H' → ArOk H F' H' vs ([sD s, gD gt].map .dat) → Q vs H')) rest D (L2.start nM_RisingMaker_worked_out [.ref A.m, .int y]) H := by
  obtain ⟨dx, fvs, a1, a2, a3, a4⟩ := id mk.ex
  have R0 : Rep H (.obj A.m A.CM (fsM c) :: [.dat (.int y), .any, .any, .any, .any, .any, .any]) (L2.start nM_RisingMaker_worked_out [.ref A.m, .int y]) F H := rep_two (N := nM_RisingMaker_worked_out) (ds := [.int y]) ⟨dx, fvs, a1, a2⟩ (.cons ⟨_, rfl, is_int⟩ .nil)
  refine ⟨F, hs, R0, fun vs F1 H1 g1 i1 => ?_⟩
  cases i1 with
  | @cons u1 _ _ _ i1 i2 =>
    cases i2 with
    | @cons u2 _ _ _ i2 i3 =>
      cases i3
      obtain ⟨_, eu1, i1⟩ := i1
      cases eu1
      obtain ⟨_, eu2, i2⟩ := i2
      cases eu2
      refine ⟨_, _, rfl, ?_⟩
      have S0 : MSt c A st [.dat (.int y), .any, .any, .any, .any, .any, .any] _ F H := ⟨mk, R0⟩
      have S1 : MSt c A st (rhoW y s gt .any .any .any) _ F1 H1 := ((S0.mono (by intro s hs; simp at hs; rcases hs with rfl | rfl <;> rfl) g1).set (n := 1) i1).set (n := 2) i2
      exact h _ F1 H1 g1 S1
abbrev WoGoal (X : Cx) (k : Nat) (c : Mc) (A : MAd) (y : Nat) (H : Hp) (Q : VK) : Prop := ∃ t, PSs X (defBody sM_RisingMaker_worked_out) t ∧ t { nx := fun _ H' => Q .non H', rt := Q } (L2.start nM_RisingMaker_worked_out [.ref A.m, .int y]) H
theorem WoT_wk (K0 : Nat) (W : WoC X CM CW K0 k) [fx : Fx X (defScope sM_RisingMaker_worked_out) nM_RisingMaker_worked_out k] [fl : Fl X] {c : Mc} {A : MAd} {st : Ws} {y a : Nat} {x : List Int} {F0 H0 F H : Hp} {Q : VK} (good : c.Good) (e1 : A.CM = CM) (e2 : A.CW = CW) (mk : MkOk c A st F H) (inv : c.Inv st 0) (vis : Vis c y) (hy : y ≤ K0) (hs : c.ss[y]? = some (.wk a x)) (g : Gw F0 H0 F H) (z1 : H0 A.kd = none) (z2 : H0 A.ls = none) (z3 : H0 A.lc = none)
    (q : ∀ st' i F' H', PPost c st y 1 st' i → Gw F0 H0 F' H' → Same F F' → MkOk c A st' F' H' → Q (.int (i : Nat)) H') : WoGoal X k c A y H Q := by
  subst e1 e2
  obtain ⟨v1, v2, v3⟩ := vis_of (X := X) (x := "self") fx.hsc (by decide +kernel)
  have ev := fun p => pe_var (X := X) (pos := p) (i := 0) (x := "self") (by rw [fx.hN]; rfl) v1 v2 v3
  obtain ⟨hay, hva, hka⟩ := vis_wk good hs vis
  obtain ⟨K1, rfl⟩ : ∃ K1, K0 = K1 + 1 := ⟨K0 - 1, by omega⟩
  obtain ⟨hlev, hpl⟩ := W.place K1 rfl
  obtain ⟨mf, mfd, mps, mc, mm, mF, mb⟩ := hpl.ex
  have hg : c.gs[y]? = some (.same a) := gs_get hs
  have KM := W.km
  let ρ1 := rhoW y (.wk a x) (.same a) .any .any .any
  refine ⟨_, pss_cons (ps_first (A := A) KM hs hg) (pss_cons (ps_if (DT.fr (ρ := .obj A.m A.CM (fsM c) :: ρ1) (t_F (t_eqS (e_ixT (e_v 2 rfl rfl) e_int rfl) e_str) (by decide +kernel))) pss_false pss_nil)
    (pss_cons (ps_if (DT.fr (ρ := .obj A.m A.CM (fsM c) :: ρ1) (t_T (t_eqS (e_ixT (e_v 3 rfl rfl) e_int rfl) e_str) (by decide +kernel)))
      (pss_cons (ps_ret (pe_meth (pl := _) (ev _) mc mm mF (fx.room.mono hlev) mb (.nil : Vals [] []) pass0 (pa_cons (DE.fr (ρ := .obj A.m A.CM (fsM c) :: ρ1) (d := .int a) (e_ixT (e_v 3 rfl rfl) e_int rfl)) pa_nil) rfl rfl rfl)) pss_nil) pss_nil) pss_false)), ?_⟩
  refine wo_start mk g.fh fun σ F1 H1 g1 S1 => ?_
  have hp1 : ∀ s ∈ ρ1, s.plain = true := rhoW_plain rfl rfl rfl
  refine ⟨F1, g1.fh, S1.rep, fun F2 H2 g2 => ?_⟩
  refine iteF ?_
  have S2 := S1.mono hp1 g2
  refine ⟨F2, g2.fh, S2.rep, fun F3 H3 g3 => ?_⟩
  refine iteT ?_
  have S3 := S2.mono hp1 g3
  have gg := g1.trans (g2.trans g3)
  exact rd_place hp1 good S3 inv hva (by omega) (g.trans gg) z1 z2 z3 fun st' i F' H' po g' s' S' => q st' i F' H' (po.down hay hka) g' (gg.ff.trans s') S'.ok
theorem atGv {c : Mc} {a : Nat} (h : a < c.ss.length) : atI (c.gv.map PyData.bool) (a : Int) = some (.bool (c.gv.getD a false)) := atB (by rw [gv_len]; exact h)
theorem WoT_need (K0 : Nat) (W : WoC X CM CW K0 k) [fx : Fx X (defScope sM_RisingMaker_worked_out) nM_RisingMaker_worked_out k] [fl : Fl X] {c : Mc} {A : MAd} {st : Ws} {y a b v : Nat} {F0 H0 F H : Hp} {Q : VK} (good : c.Good) (e1 : A.CM = CM) (e2 : A.CW = CW) (mk : MkOk c A st F H) (inv : c.Inv st 0) (vis : Vis c y) (hy : y ≤ K0) (hs : c.ss[y]? = some (.res a b v)) (hc : (v : Int) ∈ common c.cs c.div) (g : Gw F0 H0 F H) (z1 : H0 A.kd = none) (z2 : H0 A.ls = none) (z3 : H0 A.lc = none)
    (q : ∀ st' i F' H', PPost c st y 1 st' i → Gw F0 H0 F' H' → Same F F' → MkOk c A st' F' H' → Q (.int (i : Nat)) H') : WoGoal X k c A y H Q := by
  subst e1 e2
  obtain ⟨v1, v2, v3⟩ := vis_of (X := X) (x := "self") fx.hsc (by decide +kernel)
  have ev := fun p => pe_var (X := X) (pos := p) (i := 0) (x := "self") (by rw [fx.hN]; rfl) v1 v2 v3
  obtain ⟨wT, wF⟩ := vis_need good hs vis hc
  obtain ⟨r1, r2, r3, r4, _⟩ : a < y ∧ b < y ∧ 1 ≤ v ∧ v ≤ c.n ∧ resolv (c.C a) (c.C b) v = some (c.C y) := good.at hs
  obtain ⟨K1, rfl⟩ : ∃ K1, K0 = K1 + 1 := ⟨K0 - 1, by omega⟩
  obtain ⟨hlev, hpl⟩ := W.place K1 rfl
  obtain ⟨mf, mfd, mps, mc, mm, mF, mb⟩ := hpl.ex
  have hg : c.gs[y]? = some (.need v a b) := by
    rw [gs_get hs]
    simp only [gateOf]
    rw [if_pos (decide_eq_true hc)]
    rfl
  have KM := W.km
  have hvl := c.val_at (by have := vis.1; omega)
  let ρ1 := rhoW y (.res a b v) (.need v a b) .any .any .any
  let ρ2 := rhoW y (.res a b v) (.need v a b) .any (.dat (.bool c.val)) .any
  refine ⟨_, pss_cons (ps_first (A := A) KM hs hg) (pss_cons (ps_if (DT.fr (ρ := .obj A.m A.CM (fsM c) :: ρ1) (t_F (t_eqS (e_ixT (e_v 2 rfl rfl) e_int rfl) e_str) (by decide +kernel))) pss_false pss_nil)
    (pss_cons (ps_if (DT.fr (ρ := .obj A.m A.CM (fsM c) :: ρ1) (t_F (t_eqS (e_ixT (e_v 3 rfl rfl) e_int rfl) e_str) (by decide +kernel))) pss_false pss_nil)
    (pss_cons (ps_set (i := 5) (by rw [fx.hN]; exact fx.nd) (by rw [fx.hN]; rfl) (loc_of fx.hsc (by decide +kernel)) (DE.fr (ρ := .obj A.m A.CM (fsM c) :: ρ1) (d := .bool c.val) (e_ixL (e_fld 0 rfl rfl KM.cls KM.n5 fm_gv) (e_neg e_int) (atI_m1 (by rw [List.getLast?_map, hvl]; rfl)))) rfl (.inl (fl.fn _)))
    (pss_cons (ps_if (DT.fr (ρ := .obj A.m A.CM (fsM c) :: ρ2) (t_T (t_eqS (e_ixT (e_v 3 rfl rfl) e_int rfl) e_str) (by decide +kernel)))
      (pss_cons (ps_if (DT.fr (ρ := .obj A.m A.CM (fsM c) :: ρ2) (b := decide ((v : Int) ∈ c.cube) || (!c.val && !c.gv.getD b false)) (t_w (w_or (t_inT (ns := c.cube) (e_ixT (e_v 3 rfl rfl) e_int rfl) (e_fld 0 rfl rfl KM.cls KM.n3 fm_cube)) fun _ => w_1o (t_and (t_not (t_val (e_v 5 rfl rfl))) fun _ => t_not (t_val (e_ixL (e_fld 0 rfl rfl KM.cls KM.n5 fm_gv) (e_ixT (e_v 3 rfl rfl) e_int rfl) (atGv (by have := vis.1; omega))))))))
        (pss_cons (ps_ret (pe_meth (pl := _) (ev _) mc mm mF (fx.room.mono hlev) mb (.nil : Vals [] []) pass0 (pa_cons (DE.fr (ρ := .obj A.m A.CM (fsM c) :: ρ2) (d := .int b) (e_ixT (e_v 3 rfl rfl) e_int rfl)) pa_nil) rfl rfl rfl)) pss_nil) pss_nil)
      (pss_cons (ps_ret (pe_meth (pl := _) (ev _) mc mm mF (fx.room.mono hlev) mb (.nil : Vals [] []) pass0 (pa_cons (DE.fr (ρ := .obj A.m A.CM (fsM c) :: ρ2) (d := .int a) (e_ixT (e_v 3 rfl rfl) e_int rfl)) pa_nil) rfl rfl rfl)) pss_nil)) pss_nil) pss_false)))), ?_⟩
  refine wo_start mk g.fh fun σ F1 H1 g1 S1 => ?_
  have hp1 : ∀ s ∈ ρ1, s.plain = true := rhoW_plain rfl rfl rfl
  have hp2 : ∀ s ∈ ρ2, s.plain = true := rhoW_plain rfl rfl rfl
  refine ⟨F1, g1.fh, S1.rep, fun F2 H2 g2 => iteF ?_⟩
  have S2 := S1.mono hp1 g2
  refine ⟨F2, g2.fh, S2.rep, fun F3 H3 g3 => iteF ?_⟩
  have S3 := S2.mono hp1 g3
  refine ⟨F3, g3.fh, S3.rep, fun u4 F4 H4 g4 i4 => ?_⟩
  have S4 : MSt c A st ρ2 _ F4 H4 := (S3.mono hp1 g4).set (n := 4) i4
  refine ⟨F4, g4.fh, S4.rep, fun F5 H5 g5 => iteT ?_⟩
  have S5 := S4.mono hp2 g5
  refine ⟨F5, g5.fh, S5.rep, fun F6 H6 g6 => ?_⟩
  have S6 := S5.mono hp2 g6
  have gg := g1.trans (g2.trans (g3.trans (g4.trans (g5.trans g6))))
  cases hw : (decide ((v : Int) ∈ c.cube) || (!c.val && !c.gv.getD b false)) with
  | true =>
    refine iteT ?_
    obtain ⟨h1, h2, h3⟩ := wT hw
    exact rd_place hp2 good S6 inv h2 (by omega) (g.trans gg) z1 z2 z3 fun st' i F' H' po g' s' S' => q st' i F' H' (po.down h1 h3) g' (gg.ff.trans s') S'.ok
  | false =>
    refine iteF ?_
    obtain ⟨h1, h2, h3⟩ := wF hw
    exact rd_place hp2 good S6 inv h2 (by omega) (g.trans gg) z1 z2 z3 fun st' i F' H' po g' s' S' => q st' i F' H' (po.down h1 h3) g' (gg.ff.trans s') S'.ok
end
end Rb
/-! the maker: worked_out, variables of one side (printed by gen_k5.py) -/
namespace Rb
open PySem PySem.Spec L2
section
variable {X : Cx} {k : Nat} {CM CW : Addr}
theorem WoT_or (K0 : Nat) (W : WoC X CM CW K0 k) [fx : Fx X (defScope sM_RisingMaker_worked_out) nM_RisingMaker_worked_out k] [fl : Fl X] {c : Mc} {A : MAd} {st : Ws} {y a b v : Nat} {F0 H0 F H : Hp} {Q : VK} (good : c.Good) (e1 : A.CM = CM) (e2 : A.CW = CW) (mk : MkOk c A st F H) (inv : c.Inv st 0) (vis : Vis c y) (hy : y ≤ K0) (hs : c.ss[y]? = some (.res a b v)) (hc : (v : Int) ∉ common c.cs c.div) (hio : isOr c v = true) (g : Gw F0 H0 F H) (z1 : H0 A.kd = none) (z2 : H0 A.ls = none) (z3 : H0 A.lc = none)
    (q : ∀ st' i F' H', PPost c st y 1 st' i → Gw F0 H0 F' H' → Same F F' → MkOk c A st' F' H' → Q (.int (i : Nat)) H') : WoGoal X k c A y H Q := by
  subst e1 e2
  obtain ⟨v1, v2, v3⟩ := vis_of (X := X) (x := "self") fx.hsc (by decide +kernel)
  have ev := fun p => pe_var (X := X) (pos := p) (i := 0) (x := "self") (by rw [fx.hN]; rfl) v1 v2 v3
  obtain ⟨r1, r2, r3, r4, _⟩ : a < y ∧ b < y ∧ 1 ≤ v ∧ v ≤ c.n ∧ resolv (c.C a) (c.C b) v = some (c.C y) := good.at hs
  obtain ⟨K1, rfl⟩ : ∃ K1, K0 = K1 + 1 := ⟨K0 - 1, by omega⟩
  obtain ⟨hlev, hpl⟩ := W.place K1 rfl
  obtain ⟨mf, mfd, mps, mc, mm, mF, mb⟩ := hpl.ex
  obtain ⟨nf, nfd, nps, nc, nm, nF, nb⟩ := W.res.ex
  have hg : c.gs[y]? = some (.or a b) := by
    rw [gs_get hs]
    simp only [gateOf]
    rw [if_neg (by simpa using hc)]
    unfold isOr at hio
    rw [if_neg (by simpa using hio)]
    rfl
  have KM := W.km
  have hvl := c.val_at (by have := vis.1; omega)
  generalize hfit : [a, b].filter (fun z => decide (c.gv.getD z false = c.val)) = fit
  let ρ1 := rhoW y (.res a b v) (.or a b) .any .any .any
  let ρ2 := rhoW y (.res a b v) (.or a b) .any (.dat (.bool c.val)) .any
  let ρ3 := rhoW y (.res a b v) (.or a b) .any (.dat (.bool c.val)) (.dat (.list (fit.map fun z : Nat => .int (z : Nat))))
  have hp1 : ∀ s ∈ ρ1, s.plain = true := rhoW_plain rfl rfl rfl
  have hp2 : ∀ s ∈ ρ2, s.plain = true := rhoW_plain rfl rfl rfl
  have hp3 : ∀ s ∈ ρ3, s.plain = true := rhoW_plain rfl rfl rfl
  have first := ps_first (A := A) KM hs hg
  by_cases hval : c.val = true
  · -- one of the two stands
    obtain ⟨t, r, hf2, ht1, ht2, ht3⟩ := vis_pick good hs vis hc (hio.trans hval.symm)
    rw [hfit] at hf2
    refine ⟨_, pss_cons first (pss_cons (ps_if (DT.fr (ρ := .obj A.m A.CM (fsM c) :: ρ1) (t_F (t_eqS (e_ixT (e_v 2 rfl rfl) e_int rfl) e_str) (by decide +kernel))) pss_false pss_nil)
      (pss_cons (ps_if (DT.fr (ρ := .obj A.m A.CM (fsM c) :: ρ1) (t_F (t_eqS (e_ixT (e_v 3 rfl rfl) e_int rfl) e_str) (by decide +kernel))) pss_false pss_nil)
      (pss_cons (ps_set (i := 5) (by rw [fx.hN]; exact fx.nd) (by rw [fx.hN]; rfl) (loc_of fx.hsc (by decide +kernel)) (DE.fr (ρ := .obj A.m A.CM (fsM c) :: ρ1) (d := .bool c.val) (e_ixL (e_fld 0 rfl rfl KM.cls KM.n5 fm_gv) (e_neg e_int) (atI_m1 (by rw [List.getLast?_map, hvl]; rfl)))) rfl (.inl (fl.fn _)))
      (pss_cons (ps_if (DT.fr (ρ := .obj A.m A.CM (fsM c) :: ρ2) (t_F (t_eqS (e_ixT (e_v 3 rfl rfl) e_int rfl) e_str) (by decide +kernel))) pss_false pss_nil)
      (pss_cons (lc_fr (ρ := .obj A.m A.CM (fsM c) :: ρ2) (d := .list (fit.map fun z : Nat => .int (z : Nat))) 6 rfl (LcOk.imp (l_lc (enc := fun n : Nat => .int (n : Nat)) (xs := [a, b]) (f := fun z => decide (c.gv.getD z false = c.val)) (g := fun z : Nat => .int (z : Nat)) 7 (i_T (ds := [.int a, .int b]) (e_slT (n := 1) (ds := [.str "or", .int a, .int b]) (e_v 3 rfl rfl) e_int (by decide) (Nat.zero_lt_succ _))) rfl (fun s H C cl fp z fx' hz => ts_1 (t_eqB (e_ixL (e_fld 0 rfl rfl KM.cls KM.n5 fm_gv) (e_v 7 rfl rfl) (atGv (by have := vis.1; simp at hz; omega))) (e_v 5 rfl rfl))) (fun s H C cl fp z fx' hz hf => e_v 7 rfl rfl)) (fun d hd => by rw [hd, hfit])))
      (pss_cons (ps_if (DT.fr (ρ := .obj A.m A.CM (fsM c) :: ρ3) (t_T (t_eqB (e_eqS (e_ixT (e_v 3 rfl rfl) e_int rfl) e_str) (e_v 5 rfl rfl)) (by rw [hval]; decide +kernel)))
        (pss_cons (ps_ret (pe_meth (pl := _) (ev _) mc mm mF (fx.room.mono hlev) mb (.nil : Vals [] []) pass0 (pa_cons (DE.fr (ρ := .obj A.m A.CM (fsM c) :: ρ3) (d := .int t) (e_ixL (e_v 6 rfl rfl) e_int (by rw [hf2]; exact atI_nn (j := 0) rfl))) pa_nil) rfl rfl rfl)) pss_nil) pss_nil) pss_false)))))), ?_⟩
    refine wo_start mk g.fh fun σ F1 H1 g1 S1 => ?_
    refine ⟨F1, g1.fh, S1.rep, fun F2 H2 g2 => iteF ?_⟩
    have S2 := S1.mono hp1 g2
    refine ⟨F2, g2.fh, S2.rep, fun F3 H3 g3 => iteF ?_⟩
    have S3 := S2.mono hp1 g3
    refine ⟨F3, g3.fh, S3.rep, fun u4 F4 H4 g4 i4 => ?_⟩
    have S4 : MSt c A st ρ2 _ F4 H4 := (S3.mono hp1 g4).set (n := 4) i4
    refine ⟨F4, g4.fh, S4.rep, fun F5 H5 g5 => iteF ?_⟩
    have S5 := S4.mono hp2 g5
    refine ⟨F5, g5.fh, S5.rep, fun u6 F6 H6 g6 i6 => ?_⟩
    have S6 : MSt c A st ρ3 _ F6 H6 := (S5.mono hp2 g6).set (n := 5) i6
    refine ⟨F6, g6.fh, S6.rep, fun F7 H7 g7 => iteT ?_⟩
    have S7 := S6.mono hp3 g7
    have gg := g1.trans (g2.trans (g3.trans (g4.trans (g5.trans (g6.trans g7)))))
    exact rd_place hp3 good S7 inv ht2 (by omega) (g.trans gg) z1 z2 z3 fun st' i F' H' po g' s' S' => q st' i F' H' (po.down ht1 ht3) g' (gg.ff.trans s') S'.ok
  · -- both stand: resolved
    obtain ⟨h1, h2, va, vb, both⟩ := vis_both good hs vis hc (fun e => hval (e.symm.trans hio))
    refine ⟨_, pss_cons first (pss_cons (ps_if (DT.fr (ρ := .obj A.m A.CM (fsM c) :: ρ1) (t_F (t_eqS (e_ixT (e_v 2 rfl rfl) e_int rfl) e_str) (by decide +kernel))) pss_false pss_nil)
      (pss_cons (ps_if (DT.fr (ρ := .obj A.m A.CM (fsM c) :: ρ1) (t_F (t_eqS (e_ixT (e_v 3 rfl rfl) e_int rfl) e_str) (by decide +kernel))) pss_false pss_nil)
      (pss_cons (ps_set (i := 5) (by rw [fx.hN]; exact fx.nd) (by rw [fx.hN]; rfl) (loc_of fx.hsc (by decide +kernel)) (DE.fr (ρ := .obj A.m A.CM (fsM c) :: ρ1) (d := .bool c.val) (e_ixL (e_fld 0 rfl rfl KM.cls KM.n5 fm_gv) (e_neg e_int) (atI_m1 (by rw [List.getLast?_map, hvl]; rfl)))) rfl (.inl (fl.fn _)))
      (pss_cons (ps_if (DT.fr (ρ := .obj A.m A.CM (fsM c) :: ρ2) (t_F (t_eqS (e_ixT (e_v 3 rfl rfl) e_int rfl) e_str) (by decide +kernel))) pss_false pss_nil)
      (pss_cons (lc_fr (ρ := .obj A.m A.CM (fsM c) :: ρ2) (d := .list (fit.map fun z : Nat => .int (z : Nat))) 6 rfl (LcOk.imp (l_lc (enc := fun n : Nat => .int (n : Nat)) (xs := [a, b]) (f := fun z => decide (c.gv.getD z false = c.val)) (g := fun z : Nat => .int (z : Nat)) 7 (i_T (ds := [.int a, .int b]) (e_slT (n := 1) (ds := [.str "or", .int a, .int b]) (e_v 3 rfl rfl) e_int (by decide) (Nat.zero_lt_succ _))) rfl (fun s H C cl fp z fx' hz => ts_1 (t_eqB (e_ixL (e_fld 0 rfl rfl KM.cls KM.n5 fm_gv) (e_v 7 rfl rfl) (atGv (by have := vis.1; simp at hz; omega))) (e_v 5 rfl rfl))) (fun s H C cl fp z fx' hz hf => e_v 7 rfl rfl)) (fun d hd => by rw [hd, hfit])))
      (pss_cons (ps_if (DT.fr (ρ := .obj A.m A.CM (fsM c) :: ρ3) (t_F (t_eqB (e_eqS (e_ixT (e_v 3 rfl rfl) e_int rfl) e_str) (e_v 5 rfl rfl)) (by cases hcv : c.val <;> first | exact absurd hcv hval | decide +kernel))) pss_false pss_nil)
        (pss_cons (ps_ret (pe_meth (pl := _) (pe_fld (ev _) rfl) nc nm nF (fx.room.mono (by have := W.lev; omega)) nb (.nil : Vals [] []) pass0
          (pa_cons (pe_meth (pl := _) (ev _) mc mm mF (fx.room.mono hlev) mb (.nil : Vals [] []) pass0 (pa_cons (DE.fr (ρ := .obj A.m A.CM (fsM c) :: ρ3) (d := .int a) (e_ixT (e_v 3 rfl rfl) e_int rfl)) pa_nil) rfl rfl rfl)
          (pa_cons (pe_meth (pl := _) (ev _) mc mm mF (fx.room.mono hlev) mb (.nil : Vals [] []) pass0 (pa_cons (DE.fr (ρ := .obj A.m A.CM (fsM c) :: ρ3) (d := .int b) (e_ixT (e_v 3 rfl rfl) e_int rfl)) pa_nil) rfl rfl rfl)
          (pa_cons (DE.fr (ρ := .obj A.m A.CM (fsM c) :: ρ3) (d := .int v) (e_ixT (e_v 2 rfl rfl) e_int rfl)) pa_nil))) rfl rfl rfl)) pss_nil))))))), ?_⟩
    refine wo_start mk g.fh fun σ F1 H1 g1 S1 => ?_
    refine ⟨F1, g1.fh, S1.rep, fun F2 H2 g2 => iteF ?_⟩
    have S2 := S1.mono hp1 g2
    refine ⟨F2, g2.fh, S2.rep, fun F3 H3 g3 => iteF ?_⟩
    have S3 := S2.mono hp1 g3
    refine ⟨F3, g3.fh, S3.rep, fun u4 F4 H4 g4 i4 => ?_⟩
    have S4 : MSt c A st ρ2 _ F4 H4 := (S3.mono hp1 g4).set (n := 4) i4
    refine ⟨F4, g4.fh, S4.rep, fun F5 H5 g5 => iteF ?_⟩
    have S5 := S4.mono hp2 g5
    refine ⟨F5, g5.fh, S5.rep, fun u6 F6 H6 g6 i6 => ?_⟩
    have S6 : MSt c A st ρ3 _ F6 H6 := (S5.mono hp2 g6).set (n := 5) i6
    refine ⟨F6, g6.fh, S6.rep, fun F7 H7 g7 => iteF ?_⟩
    have S7 := S6.mono hp3 g7
    have gg := g1.trans (g2.trans (g3.trans (g4.trans (g5.trans (g6.trans g7)))))
    obtain ⟨dx3, fv3, b1, b2, b3, b4⟩ := S7.ok.ex
    obtain ⟨dxw, fvw, w1, _, _, _, _, w6⟩ := S7.ok.wr.ex
    refine ⟨_, S7.slf, A.m, A.CM, dx3, fv3, .ref A.w, rfl, b1, KM.cls, KM.n8, b3, A.w, dxw, fvw, rfl, w1, w6, ?_⟩
    refine rd_place hp3 good S7 inv va (by omega) (g.trans gg) z1 z2 z3 fun sta ia F8 H8 poa g8 s8 S8 => ?_
    refine rd_place hp3 good S8 poa.inv vb (by omega) g8 z1 z2 z3 fun stb ib F9 H9 pob g9 s9 S9 => ?_
    refine ⟨F9, g9.fh, S9.rep, fun u10 F10 H10 g10 i10 => ?_⟩
    rw [i10.int_inv]
    have S10 := S9.mono hp3 g10
    obtain ⟨x, hx1, hx2⟩ := poa.at_
    obtain ⟨z, hz1, hz2⟩ := pob.at_
    have hx1' : stb.wcls[ia]? = some x := by
      obtain ⟨m, e⟩ := pob.pre
      rw [e, List.getElem?_append_left (List.getElem?_eq_some_iff.mp hx1).1]; exact hx1
    obtain ⟨c1, c2, c3⟩ := both x z hx2 hz2
    have lx := hx2.1.small good.fm.1
    have lz := hz2.1.small good.fm.1
    have chn : Ch st stb y := (Ch.refl.step poa h1).step pob h2
    have hkl := pob.inv.knlen
    have hfew := pob.inv.few
    have := good.few
    have g0 : Gw F0 H0 F10 H10 := g9.trans g10
    have sF : Same F F10 := gg.ff.trans (s8.trans (s9.trans g10.ff))
    refine ⟨⟨c.n, c.half, A.w, A.ls, A.lc, stb.ws, stb.wcls⟩, ia, ib, v, x, z, F10, woW A H10, F10, rfl, S10.ok.wr, hx1', hz1, r3, r4, by omega, by show stb.ws.length ≤ 1000; omega, pob.inv.der.1, Gw.part g10.fh woW_same, woW_ls, woW_lc, fun p1 p2 => (c3 p1 p2).imp fun r hr => hr.1, fun F11 H11 g11 s11 k11 => ⟨fun hn wr => ?_, fun hn1 hn2 wr => ?_, fun hn1 hn2 w hw wr => ?_⟩⟩
    · exact q stb ia F11 H11 (PPost.stay chn pob.inv hx1' (c1 hn)) (g0.via (h0_woW g0 z2 z3) g11) (sF.trans s11) (S10.ok.after g11 wr)
    · exact q stb ib F11 H11 (PPost.stay chn pob.inv hz1 (c2 hn2)) (g0.via (h0_woW g0 z2 z3) g11) (sF.trans s11) (S10.ok.after g11 wr)
    · obtain ⟨r, hr1, hr2⟩ := c3 hn1 hn2
      have e : r = w := by rw [hr1] at hw; exact Option.some.inj hw
      subst e
      exact q _ _ F11 H11 (PPost.add (s := .res ia ib v) (x := r) chn pob.inv ⟨x, z, hx1', hz1, r3, hn1, hn2, hw, by omega⟩ hr2) (g0.via (h0_woW g0 z2 z3) g11) (sF.trans s11) (S10.ok.after g11 wr)
theorem WoT_and (K0 : Nat) (W : WoC X CM CW K0 k) [fx : Fx X (defScope sM_RisingMaker_worked_out) nM_RisingMaker_worked_out k] [fl : Fl X] {c : Mc} {A : MAd} {st : Ws} {y a b v : Nat} {F0 H0 F H : Hp} {Q : VK} (good : c.Good) (e1 : A.CM = CM) (e2 : A.CW = CW) (mk : MkOk c A st F H) (inv : c.Inv st 0) (vis : Vis c y) (hy : y ≤ K0) (hs : c.ss[y]? = some (.res a b v)) (hc : (v : Int) ∉ common c.cs c.div) (hio : isOr c v = false) (g : Gw F0 H0 F H) (z1 : H0 A.kd = none) (z2 : H0 A.ls = none) (z3 : H0 A.lc = none)
    (q : ∀ st' i F' H', PPost c st y 1 st' i → Gw F0 H0 F' H' → Same F F' → MkOk c A st' F' H' → Q (.int (i : Nat)) H') : WoGoal X k c A y H Q := by
  subst e1 e2
  obtain ⟨v1, v2, v3⟩ := vis_of (X := X) (x := "self") fx.hsc (by decide +kernel)
  have ev := fun p => pe_var (X := X) (pos := p) (i := 0) (x := "self") (by rw [fx.hN]; rfl) v1 v2 v3
  obtain ⟨r1, r2, r3, r4, _⟩ : a < y ∧ b < y ∧ 1 ≤ v ∧ v ≤ c.n ∧ resolv (c.C a) (c.C b) v = some (c.C y) := good.at hs
  obtain ⟨K1, rfl⟩ : ∃ K1, K0 = K1 + 1 := ⟨K0 - 1, by omega⟩
  obtain ⟨hlev, hpl⟩ := W.place K1 rfl
  obtain ⟨mf, mfd, mps, mc, mm, mF, mb⟩ := hpl.ex
  obtain ⟨nf, nfd, nps, nc, nm, nF, nb⟩ := W.res.ex
  have hg : c.gs[y]? = some (.and a b) := by
    rw [gs_get hs]
    simp only [gateOf]
    rw [if_neg (by simpa using hc)]
    unfold isOr at hio
    rw [if_pos (by simpa using hio)]
    rfl
  have KM := W.km
  have hvl := c.val_at (by have := vis.1; omega)
  generalize hfit : [a, b].filter (fun z => decide (c.gv.getD z false = c.val)) = fit
  let ρ1 := rhoW y (.res a b v) (.and a b) .any .any .any
  let ρ2 := rhoW y (.res a b v) (.and a b) .any (.dat (.bool c.val)) .any
  let ρ3 := rhoW y (.res a b v) (.and a b) .any (.dat (.bool c.val)) (.dat (.list (fit.map fun z : Nat => .int (z : Nat))))
  have hp1 : ∀ s ∈ ρ1, s.plain = true := rhoW_plain rfl rfl rfl
  have hp2 : ∀ s ∈ ρ2, s.plain = true := rhoW_plain rfl rfl rfl
  have hp3 : ∀ s ∈ ρ3, s.plain = true := rhoW_plain rfl rfl rfl
  have first := ps_first (A := A) KM hs hg
  by_cases hval : c.val = false
  · -- one of the two stands
    obtain ⟨t, r, hf2, ht1, ht2, ht3⟩ := vis_pick good hs vis hc (hio.trans hval.symm)
    rw [hfit] at hf2
    refine ⟨_, pss_cons first (pss_cons (ps_if (DT.fr (ρ := .obj A.m A.CM (fsM c) :: ρ1) (t_F (t_eqS (e_ixT (e_v 2 rfl rfl) e_int rfl) e_str) (by decide +kernel))) pss_false pss_nil)
      (pss_cons (ps_if (DT.fr (ρ := .obj A.m A.CM (fsM c) :: ρ1) (t_F (t_eqS (e_ixT (e_v 3 rfl rfl) e_int rfl) e_str) (by decide +kernel))) pss_false pss_nil)
      (pss_cons (ps_set (i := 5) (by rw [fx.hN]; exact fx.nd) (by rw [fx.hN]; rfl) (loc_of fx.hsc (by decide +kernel)) (DE.fr (ρ := .obj A.m A.CM (fsM c) :: ρ1) (d := .bool c.val) (e_ixL (e_fld 0 rfl rfl KM.cls KM.n5 fm_gv) (e_neg e_int) (atI_m1 (by rw [List.getLast?_map, hvl]; rfl)))) rfl (.inl (fl.fn _)))
      (pss_cons (ps_if (DT.fr (ρ := .obj A.m A.CM (fsM c) :: ρ2) (t_F (t_eqS (e_ixT (e_v 3 rfl rfl) e_int rfl) e_str) (by decide +kernel))) pss_false pss_nil)
      (pss_cons (lc_fr (ρ := .obj A.m A.CM (fsM c) :: ρ2) (d := .list (fit.map fun z : Nat => .int (z : Nat))) 6 rfl (LcOk.imp (l_lc (enc := fun n : Nat => .int (n : Nat)) (xs := [a, b]) (f := fun z => decide (c.gv.getD z false = c.val)) (g := fun z : Nat => .int (z : Nat)) 7 (i_T (ds := [.int a, .int b]) (e_slT (n := 1) (ds := [.str "and", .int a, .int b]) (e_v 3 rfl rfl) e_int (by decide) (Nat.zero_lt_succ _))) rfl (fun s H C cl fp z fx' hz => ts_1 (t_eqB (e_ixL (e_fld 0 rfl rfl KM.cls KM.n5 fm_gv) (e_v 7 rfl rfl) (atGv (by have := vis.1; simp at hz; omega))) (e_v 5 rfl rfl))) (fun s H C cl fp z fx' hz hf => e_v 7 rfl rfl)) (fun d hd => by rw [hd, hfit])))
      (pss_cons (ps_if (DT.fr (ρ := .obj A.m A.CM (fsM c) :: ρ3) (t_T (t_eqB (e_eqS (e_ixT (e_v 3 rfl rfl) e_int rfl) e_str) (e_v 5 rfl rfl)) (by rw [hval]; decide +kernel)))
        (pss_cons (ps_ret (pe_meth (pl := _) (ev _) mc mm mF (fx.room.mono hlev) mb (.nil : Vals [] []) pass0 (pa_cons (DE.fr (ρ := .obj A.m A.CM (fsM c) :: ρ3) (d := .int t) (e_ixL (e_v 6 rfl rfl) e_int (by rw [hf2]; exact atI_nn (j := 0) rfl))) pa_nil) rfl rfl rfl)) pss_nil) pss_nil) pss_false)))))), ?_⟩
    refine wo_start mk g.fh fun σ F1 H1 g1 S1 => ?_
    refine ⟨F1, g1.fh, S1.rep, fun F2 H2 g2 => iteF ?_⟩
    have S2 := S1.mono hp1 g2
    refine ⟨F2, g2.fh, S2.rep, fun F3 H3 g3 => iteF ?_⟩
    have S3 := S2.mono hp1 g3
    refine ⟨F3, g3.fh, S3.rep, fun u4 F4 H4 g4 i4 => ?_⟩
    have S4 : MSt c A st ρ2 _ F4 H4 := (S3.mono hp1 g4).set (n := 4) i4
    refine ⟨F4, g4.fh, S4.rep, fun F5 H5 g5 => iteF ?_⟩
    have S5 := S4.mono hp2 g5
    refine ⟨F5, g5.fh, S5.rep, fun u6 F6 H6 g6 i6 => ?_⟩
    have S6 : MSt c A st ρ3 _ F6 H6 := (S5.mono hp2 g6).set (n := 5) i6
    refine ⟨F6, g6.fh, S6.rep, fun F7 H7 g7 => iteT ?_⟩
    have S7 := S6.mono hp3 g7
    have gg := g1.trans (g2.trans (g3.trans (g4.trans (g5.trans (g6.trans g7)))))
    exact rd_place hp3 good S7 inv ht2 (by omega) (g.trans gg) z1 z2 z3 fun st' i F' H' po g' s' S' => q st' i F' H' (po.down ht1 ht3) g' (gg.ff.trans s') S'.ok
  · -- both stand: resolved
    obtain ⟨h1, h2, va, vb, both⟩ := vis_both good hs vis hc (fun e => hval (e.symm.trans hio))
    refine ⟨_, pss_cons first (pss_cons (ps_if (DT.fr (ρ := .obj A.m A.CM (fsM c) :: ρ1) (t_F (t_eqS (e_ixT (e_v 2 rfl rfl) e_int rfl) e_str) (by decide +kernel))) pss_false pss_nil)
      (pss_cons (ps_if (DT.fr (ρ := .obj A.m A.CM (fsM c) :: ρ1) (t_F (t_eqS (e_ixT (e_v 3 rfl rfl) e_int rfl) e_str) (by decide +kernel))) pss_false pss_nil)
      (pss_cons (ps_set (i := 5) (by rw [fx.hN]; exact fx.nd) (by rw [fx.hN]; rfl) (loc_of fx.hsc (by decide +kernel)) (DE.fr (ρ := .obj A.m A.CM (fsM c) :: ρ1) (d := .bool c.val) (e_ixL (e_fld 0 rfl rfl KM.cls KM.n5 fm_gv) (e_neg e_int) (atI_m1 (by rw [List.getLast?_map, hvl]; rfl)))) rfl (.inl (fl.fn _)))
      (pss_cons (ps_if (DT.fr (ρ := .obj A.m A.CM (fsM c) :: ρ2) (t_F (t_eqS (e_ixT (e_v 3 rfl rfl) e_int rfl) e_str) (by decide +kernel))) pss_false pss_nil)
      (pss_cons (lc_fr (ρ := .obj A.m A.CM (fsM c) :: ρ2) (d := .list (fit.map fun z : Nat => .int (z : Nat))) 6 rfl (LcOk.imp (l_lc (enc := fun n : Nat => .int (n : Nat)) (xs := [a, b]) (f := fun z => decide (c.gv.getD z false = c.val)) (g := fun z : Nat => .int (z : Nat)) 7 (i_T (ds := [.int a, .int b]) (e_slT (n := 1) (ds := [.str "and", .int a, .int b]) (e_v 3 rfl rfl) e_int (by decide) (Nat.zero_lt_succ _))) rfl (fun s H C cl fp z fx' hz => ts_1 (t_eqB (e_ixL (e_fld 0 rfl rfl KM.cls KM.n5 fm_gv) (e_v 7 rfl rfl) (atGv (by have := vis.1; simp at hz; omega))) (e_v 5 rfl rfl))) (fun s H C cl fp z fx' hz hf => e_v 7 rfl rfl)) (fun d hd => by rw [hd, hfit])))
      (pss_cons (ps_if (DT.fr (ρ := .obj A.m A.CM (fsM c) :: ρ3) (t_F (t_eqB (e_eqS (e_ixT (e_v 3 rfl rfl) e_int rfl) e_str) (e_v 5 rfl rfl)) (by cases hcv : c.val <;> first | exact absurd hcv hval | decide +kernel))) pss_false pss_nil)
        (pss_cons (ps_ret (pe_meth (pl := _) (pe_fld (ev _) rfl) nc nm nF (fx.room.mono (by have := W.lev; omega)) nb (.nil : Vals [] []) pass0
          (pa_cons (pe_meth (pl := _) (ev _) mc mm mF (fx.room.mono hlev) mb (.nil : Vals [] []) pass0 (pa_cons (DE.fr (ρ := .obj A.m A.CM (fsM c) :: ρ3) (d := .int a) (e_ixT (e_v 3 rfl rfl) e_int rfl)) pa_nil) rfl rfl rfl)
          (pa_cons (pe_meth (pl := _) (ev _) mc mm mF (fx.room.mono hlev) mb (.nil : Vals [] []) pass0 (pa_cons (DE.fr (ρ := .obj A.m A.CM (fsM c) :: ρ3) (d := .int b) (e_ixT (e_v 3 rfl rfl) e_int rfl)) pa_nil) rfl rfl rfl)
          (pa_cons (DE.fr (ρ := .obj A.m A.CM (fsM c) :: ρ3) (d := .int v) (e_ixT (e_v 2 rfl rfl) e_int rfl)) pa_nil))) rfl rfl rfl)) pss_nil))))))), ?_⟩
    refine wo_start mk g.fh fun σ F1 H1 g1 S1 => ?_
    refine ⟨F1, g1.fh, S1.rep, fun F2 H2 g2 => iteF ?_⟩
    have S2 := S1.mono hp1 g2
    refine ⟨F2, g2.fh, S2.rep, fun F3 H3 g3 => iteF ?_⟩
    have S3 := S2.mono hp1 g3
    refine ⟨F3, g3.fh, S3.rep, fun u4 F4 H4 g4 i4 => ?_⟩
    have S4 : MSt c A st ρ2 _ F4 H4 := (S3.mono hp1 g4).set (n := 4) i4
    refine ⟨F4, g4.fh, S4.rep, fun F5 H5 g5 => iteF ?_⟩
    have S5 := S4.mono hp2 g5
    refine ⟨F5, g5.fh, S5.rep, fun u6 F6 H6 g6 i6 => ?_⟩
    have S6 : MSt c A st ρ3 _ F6 H6 := (S5.mono hp2 g6).set (n := 5) i6
    refine ⟨F6, g6.fh, S6.rep, fun F7 H7 g7 => iteF ?_⟩
    have S7 := S6.mono hp3 g7
    have gg := g1.trans (g2.trans (g3.trans (g4.trans (g5.trans (g6.trans g7)))))
    obtain ⟨dx3, fv3, b1, b2, b3, b4⟩ := S7.ok.ex
    obtain ⟨dxw, fvw, w1, _, _, _, _, w6⟩ := S7.ok.wr.ex
    refine ⟨_, S7.slf, A.m, A.CM, dx3, fv3, .ref A.w, rfl, b1, KM.cls, KM.n8, b3, A.w, dxw, fvw, rfl, w1, w6, ?_⟩
    refine rd_place hp3 good S7 inv va (by omega) (g.trans gg) z1 z2 z3 fun sta ia F8 H8 poa g8 s8 S8 => ?_
    refine rd_place hp3 good S8 poa.inv vb (by omega) g8 z1 z2 z3 fun stb ib F9 H9 pob g9 s9 S9 => ?_
    refine ⟨F9, g9.fh, S9.rep, fun u10 F10 H10 g10 i10 => ?_⟩
    rw [i10.int_inv]
    have S10 := S9.mono hp3 g10
    obtain ⟨x, hx1, hx2⟩ := poa.at_
    obtain ⟨z, hz1, hz2⟩ := pob.at_
    have hx1' : stb.wcls[ia]? = some x := by
      obtain ⟨m, e⟩ := pob.pre
      rw [e, List.getElem?_append_left (List.getElem?_eq_some_iff.mp hx1).1]; exact hx1
    obtain ⟨c1, c2, c3⟩ := both x z hx2 hz2
    have lx := hx2.1.small good.fm.1
    have lz := hz2.1.small good.fm.1
    have chn : Ch st stb y := (Ch.refl.step poa h1).step pob h2
    have hkl := pob.inv.knlen
    have hfew := pob.inv.few
    have := good.few
    have g0 : Gw F0 H0 F10 H10 := g9.trans g10
    have sF : Same F F10 := gg.ff.trans (s8.trans (s9.trans g10.ff))
    refine ⟨⟨c.n, c.half, A.w, A.ls, A.lc, stb.ws, stb.wcls⟩, ia, ib, v, x, z, F10, woW A H10, F10, rfl, S10.ok.wr, hx1', hz1, r3, r4, by omega, by show stb.ws.length ≤ 1000; omega, pob.inv.der.1, Gw.part g10.fh woW_same, woW_ls, woW_lc, fun p1 p2 => (c3 p1 p2).imp fun r hr => hr.1, fun F11 H11 g11 s11 k11 => ⟨fun hn wr => ?_, fun hn1 hn2 wr => ?_, fun hn1 hn2 w hw wr => ?_⟩⟩
    · exact q stb ia F11 H11 (PPost.stay chn pob.inv hx1' (c1 hn)) (g0.via (h0_woW g0 z2 z3) g11) (sF.trans s11) (S10.ok.after g11 wr)
    · exact q stb ib F11 H11 (PPost.stay chn pob.inv hz1 (c2 hn2)) (g0.via (h0_woW g0 z2 z3) g11) (sF.trans s11) (S10.ok.after g11 wr)
    · obtain ⟨r, hr1, hr2⟩ := c3 hn1 hn2
      have e : r = w := by rw [hr1] at hw; exact Option.some.inj hw
      subst e
      exact q _ _ F11 H11 (PPost.add (s := .res ia ib v) (x := r) chn pob.inv ⟨x, z, hx1', hz1, r3, hn1, hn2, hw, by omega⟩ hr2) (g0.via (h0_woW g0 z2 z3) g11) (sF.trans s11) (S10.ok.after g11 wr)
end
end Rb
/-! the maker: worked_out whole, the tower of both -/
namespace Rb
open PySem PySem.Spec L2
section
variable {X : Cx} {k : Nat} {CM CW : Addr}
theorem b_worked (K0 : Nat) (W : WoC X CM CW K0 k) [fx : Fx X (defScope sM_RisingMaker_worked_out) nM_RisingMaker_worked_out k] [fl : Fl X] (vs : List V) (H : Hp) (Q : VK) (E : XK) (h : spWo CM CW K0 vs H Q E) :
    ∃ t, PSs X (defBody sM_RisingMaker_worked_out) t ∧ t { nx := fun _ H' => Q .non H', rt := Q } (L2.start nM_RisingMaker_worked_out vs) H := by
  obtain ⟨c, A, st, y, F0, H0, F, rfl, good, e1, e2, mk, inv, vis, hy, g, z1, z2, z3, q⟩ := h
  obtain ⟨s, hs⟩ : ∃ s, c.ss[y]? = some s := ⟨_, List.getElem?_eq_getElem vis.1⟩
  cases s with
  | ax i => exact WoT_ax K0 W good e1 e2 mk inv vis hs g z1 z2 z3 q
  | wk a x => exact WoT_wk K0 W good e1 e2 mk inv vis hy hs g z1 z2 z3 q
  | res a b v =>
    by_cases hc : (v : Int) ∈ common c.cs c.div
    · exact WoT_need K0 W good e1 e2 mk inv vis hy hs hc g z1 z2 z3 q
    · cases hio : isOr c v with
      | true => exact WoT_or K0 W good e1 e2 mk inv vis hy hs hc hio g z1 z2 z3 q
      | false => exact WoT_and K0 W good e1 e2 mk inv vis hy hs hc hio g z1 z2 z3 q
end
end Rb
/-! the maker: the tower of place and worked_out -/
namespace Rb
open PySem PySem.Spec L2
theorem Met.at {P : Program} {w : World} {K : PySem.W.Frag} {mg : Str → Option Value} {base : Heap} {X : Cx} {C : Addr} {m : Str} {k : Nat} {sp : Sp} (h : Met P w K mg base k C m sp) (c : Ctx P w K mg base X) : Ms X k C m sp := by
  obtain ⟨rfl, rfl, rfl, rfl, rfl⟩ := c
  exact h
theorem Mks.at {P : Program} {w : World} {K : PySem.W.Frag} {mg : Str → Option Value} {base : Heap} {X : Cx} {C : Addr} {x : Str} {k : Nat} {sp : Sp} (h : Mks P w K mg base k x C sp) (c : Ctx P w K mg base X) : Ks X k x C sp := by
  obtain ⟨rfl, rfl, rfl, rfl, rfl⟩ := c
  exact h
section
variable {P : Program} {w : World} {K : PySem.W.Frag} {mg : Str → Option Value} {base : Heap} {CM CW : Addr}
theorem h_place (K0 : Nat) (hf : AtM K CM "place" "RisingMaker.place" sM_RisingMaker_place) (hbn : ∀ x ∈ BN, mg x = none) (KM : MkCls K CM) (hw : Met P w K mg base (8 + 2 * K0) CM "worked_out" (spWo CM CW K0)) : Met P w K mg base (9 + 2 * K0) CM "place" (spPl CM CW K0) := by
  have e : 9 + 2 * K0 = (8 + 2 * K0) + 1 := by omega
  rw [e]
  refine met_of hf scM_RisingMaker_place hbn (fun _ _ _ _ _ _ us hl => match us, hl with | [a, b], _ => rfl) (fun vs H Q E h => ?_) fun X hX fx fl vs H Q E h => b_place K0 (by rw [hX.K]; exact KM) (Nat.le_refl _) (hw.at hX) vs H Q E h
  obtain ⟨c, A, st, k, F0, H0, F, rfl, _⟩ := h
  rfl
theorem h_worked (K0 : Nat) (hf : AtM K CM "worked_out" "RisingMaker.worked_out" sM_RisingMaker_worked_out) (hbn : ∀ x ∈ BN, mg x = none) (KM : MkCls K CM)
    (ha : Met P w K mg base 6 CW "add" (spAdd CW)) (hr : Met P w K mg base 7 CW "resolve" (spRes CW)) (hl : Has P w K mg base "left_over" 1 pLeft)
    (hp : ∀ K1, K0 = K1 + 1 → Met P w K mg base (9 + 2 * K1) CM "place" (spPl CM CW K1)) : Met P w K mg base (8 + 2 * K0) CM "worked_out" (spWo CM CW K0) := by
  have e : 8 + 2 * K0 = (7 + 2 * K0) + 1 := by omega
  rw [e]
  refine met_of hf scM_RisingMaker_worked_out hbn (fun _ _ _ _ _ _ us hl => match us, hl with | [a, b], _ => rfl) (fun vs H Q E h => ?_) fun X hX fx fl vs H Q E h => b_worked K0 ⟨by rw [hX.K]; exact KM, ha.at hX, hr.at hX, hl.at hX, fun K1 e => ⟨by omega, (hp K1 e).at hX⟩, by omega⟩ vs H Q E h
  obtain ⟨c, A, st, k, F0, H0, F, rfl, _⟩ := h
  rfl
theorem h_tower (hf : AtM K CM "place" "RisingMaker.place" sM_RisingMaker_place) (hf2 : AtM K CM "worked_out" "RisingMaker.worked_out" sM_RisingMaker_worked_out) (hbn : ∀ x ∈ BN, mg x = none) (KM : MkCls K CM)
    (ha : Met P w K mg base 6 CW "add" (spAdd CW)) (hr : Met P w K mg base 7 CW "resolve" (spRes CW)) (hl : Has P w K mg base "left_over" 1 pLeft) (K0 : Nat) : Met P w K mg base (9 + 2 * K0) CM "place" (spPl CM CW K0) := by
  induction K0 with
  | zero => exact h_place 0 hf hbn KM (h_worked 0 hf2 hbn KM ha hr hl fun K1 e => by omega)
  | succ K0 ih =>
    refine h_place (K0 + 1) hf hbn KM (h_worked (K0 + 1) hf2 hbn KM ha hr hl fun K1 e => ?_)
    obtain rfl : K0 = K1 := by omega
    exact ih
end
end Rb
/-! the maker: __init__ where the division is rising -/
namespace Rb
open PySem PySem.Spec L2
def spMI (CM CW : Addr) : Sp := fun vs H Q _ => ∃ (c : Mc) (y dx : Addr) (us : List V) (F : Hp), vs = .ref y :: us ∧ c.Good ∧ Same F H ∧ F y = none ∧ H y = some (.ins CM dx []) ∧ ArOk H F H us ([fD c.n c.cs, cD c.div, .tuple (c.ss.map sD), cD c.cube].map .dat) ∧
  ∀ w kd ls lc F' H', MkOk c ⟨CM, CW, y, w, kd, ls, lc⟩ ⟨[], [], []⟩ F' H' → Same F F' → Same F' H' → (∀ b o, H b = some o → b ≠ y → H' b = some o) → (∀ b o, F' b = some o → F b = some o ∨ H b = none) → H kd = none → H ls = none → H lc = none → Q .non H'
theorem FldOk.other {F : Hp} {vs vs' : List (Str × V)} {f : Str} {d : PyData} (h : FldOk F vs f d) (e : vs'.lookup f = vs.lookup f) : FldOk F vs' f d := by
  cases d with
  | dict _ => show vs'.lookup f = none; rw [e]; exact h
  | none => obtain ⟨w, a, b⟩ := h; exact ⟨w, by rw [e]; exact a, b⟩
  | bool _ => obtain ⟨w, a, b⟩ := h; exact ⟨w, by rw [e]; exact a, b⟩
  | int _ => obtain ⟨w, a, b⟩ := h; exact ⟨w, by rw [e]; exact a, b⟩
  | str _ => obtain ⟨w, a, b⟩ := h; exact ⟨w, by rw [e]; exact a, b⟩
  | list _ => obtain ⟨w, a, b⟩ := h; exact ⟨w, by rw [e]; exact a, b⟩
  | tuple _ => obtain ⟨w, a, b⟩ := h; exact ⟨w, by rw [e]; exact a, b⟩
theorem fm_wr {c : Mc} : (fsM c).lookup ("writer" : Str) = none := by
  unfold fsM
  rw [dk2 (by decide +kernel), dk2 (by decide +kernel), dk2 (by decide +kernel), dk2 (by decide +kernel), dk2 (by decide +kernel), dk2 (by decide +kernel), dk2 (by decide +kernel), dk2 (by decide +kernel), dk2 (by decide +kernel)]; rfl
theorem fm_kn {c : Mc} : (fsM c).lookup ("known" : Str) = none := by
  unfold fsM
  rw [dk2 (by decide +kernel), dk2 (by decide +kernel), dk2 (by decide +kernel), dk2 (by decide +kernel), dk2 (by decide +kernel), dk2 (by decide +kernel), dk2 (by decide +kernel), dk2 (by decide +kernel), dk2 (by decide +kernel)]; rfl
theorem keep_none {H H' : Hp} {y b : Addr} (h : ∀ b o, H b = some o → b ≠ y → H' b = some o) (hb : b ≠ y) (e : H' b = none) : H b = none := by
  cases q : H b with
  | none => rfl
  | some o => rw [h b o q hb] at e; cases e
section
variable {X : Cx} {k : Nat} {CM CW : Addr}
theorem b_mi (KM : MkCls X.K CM) [fx : Fx X (defScope sM_RisingMaker_init) nM_RisingMaker_init k] [fl : Fl X] (hk : 6 ≤ k) (h1 : Hs X "rising_interpolant" 5 pInterp) (h2 : Hs X "rising_values" 1 pValues) (h3 : Hs X "restricted" 2 pRestr) (h4 : Hs X "side_formula" 1 pSide) (h5 : Ks X 1 "Shortener" CW (spIW CW)) (vs : List V) (H : Hp) (Q : VK) (E : XK) (h : spMI CM CW vs H Q E) : ∃ t, PSs X (defBody sM_RisingMaker_init) t ∧ t { nx := fun _ H' => Q .non H', rt := Q } (L2.start nM_RisingMaker_init vs) H := by
  obtain ⟨c, y, dx, us, F, rfl, good, a1, a2, a3, a4, q⟩ := h
  obtain ⟨v1, v2, v3⟩ := vis_of (X := X) (x := "self") fx.hsc (by decide +kernel)
  have ev := fun p => pe_var (X := X) (pos := p) (i := 0) (x := "self") (by rw [fx.hN]; rfl) v1 v2 v3
  obtain ⟨wf, wfd, wps, wm, wF, wg, wb⟩ := h5.ex
  have hp : ∀ s ∈ ([fD c.n c.cs, cD c.div, .tuple (c.ss.map sD), cD c.cube].map Sl.dat), s.plain = true := fun s hs => by
    obtain ⟨y, _, rfl⟩ := List.mem_map.mp hs; rfl
  have hgl : c.gs.length ≤ 1000 := by have := good.few; unfold Mc.gs gatesOf; rw [List.length_map]; omega
  have hpos : 0 < c.ss.length := by
    have h := good.der.1
    have hl := good.last
    cases hc : c.cls with
    | nil => rw [hc] at hl; cases hl
    | cons x r => rw [hc] at h; simp at h; omega
  have hvl := c.val_at hpos
  let ρ : List Sl := [fD c.n c.cs, cD c.div, .tuple (c.ss.map sD), cD c.cube].map .dat
  let f0 : List (Str × PyData) := [("place", .dict []), ("worked_out", .dict [])]
  let f1 := (("formula" : Str), fD c.n c.cs) :: f0
  let f2 := (("steps" : Str), PyData.tuple (c.ss.map sD)) :: f1
  let f3 := (("cube" : Str), cD c.cube) :: f2
  let f4 := (("circuit" : Str), PyData.tuple (c.gs.map gD)) :: f3
  let f5 := (("gate_values" : Str), PyData.list (c.gv.map .bool)) :: f4
  let f6 := (("side" : Str), PyData.int c.side) :: f5
  have l6 : f6.lookup ("side" : Str) = some (.int c.side) := dk1
  have l5 : f5.lookup ("gate_values" : Str) = some (.list (c.gv.map .bool)) := dk1
  have l4 : f4.lookup ("circuit" : Str) = some (.tuple (c.gs.map gD)) := dk1
  refine ⟨_, f_set (ρ := ρ) (C := CM) (fs := f0) rfl hp (fun y => e_v 1 rfl rfl) KM.cls KM.n1 (Nat.le_of_ble_eq_true rfl)
    (f_set (fs := f1) rfl hp (fun y => e_v 3 rfl rfl) KM.cls KM.n2 (Nat.le_of_ble_eq_true rfl)
    (f_set (fs := f2) rfl hp (fun y => e_v 4 rfl rfl) KM.cls KM.n3 (Nat.le_of_ble_eq_true rfl)
    (f_set (fs := f3) (d := .tuple (c.gs.map gD)) rfl hp (fun y => e_call h1 (c.n, c.cs, c.div, c.ss) (a_d (e_v 1 rfl rfl) (a_d (e_v 2 rfl rfl) (a_d (e_v 3 rfl rfl) a_nil))) ⟨good.fm, good.ris⟩ (by omega)) KM.cls KM.n4 (Nat.le_of_ble_eq_true rfl)
    (f_set (fs := f4) (d := .list (c.gv.map .bool)) rfl hp (fun y => e_call h2 (c.gs, c.cube) (a_d (e_fld 0 rfl rfl KM.cls KM.n4 l4) (a_d (e_v 4 rfl rfl) a_nil)) ⟨good.gsok, hgl⟩ (by omega)) KM.cls KM.n5 (Nat.le_of_ble_eq_true rfl)
    (f_set (fs := f5) (d := .int c.side) rfl hp (fun y => DE.to (e_if (da := .int 2) (db := .int 1) (bb := c.val) (t_val (e_ixL (d := .bool c.val) (e_fld 0 rfl rfl KM.cls KM.n5 l5) (e_neg e_int) (atI_m1 (by rw [List.getLast?_map, hvl]; rfl)))) (fun _ => e_int) (fun _ => e_int)) (by unfold Mc.side; by_cases hb : c.val = true <;> simp [hb])) KM.cls KM.n6 (Nat.le_of_ble_eq_true rfl)
    (f_set (fs := f6) (d := fD c.n c.half) rfl hp (fun y => e_call h3 (c.n, sideC c.cs c.div c.side, c.cube) (a_d (e_call h4 (c.n, c.cs, c.div, c.side) (a_d (e_v 1 rfl rfl) (a_d (e_v 2 rfl rfl) (a_d (e_fld 0 rfl rfl KM.cls KM.n6 l6) a_nil))) trivial (by omega)) (a_d (e_v 4 rfl rfl) a_nil)) (by have := (good.fm.side (div := c.div) (s := c.side)).2.1; show (sideC c.cs c.div c.side).length < 64; omega) (by omega)) KM.cls KM.n7 (Nat.le_of_ble_eq_true rfl)
    (pss_cons (ps_fld (ev _) (pe_make wm wF (fx.room.mono (by omega)) (gl_of fx.hsc (by decide +kernel)).1 wg wb (.nil : Vals [] []) pass0 (pa_cons (pe_fld (ev _) rfl) pa_nil)) rfl)
    (pss_cons (ps_fld (ev _) pe_dnewK rfl) pss_nil)))))))), ?_⟩
  have st0 : InSt ρ CM f0 y dx [] F (L2.start nM_RisingMaker_init (.ref y :: us)) H := inst_start (T := Unit) (ar := fun _ => [fD c.n c.cs, cD c.div, .tuple (c.ss.map sD), cD c.cube]) (t := ()) (N := nM_RisingMaker_init) a1 a2 a3 a4 fun f d e => by
    by_cases hg : f = "place"
    · subst hg; rw [dk1] at e; exact ⟨[], (Option.some.inj e).symm⟩
    · by_cases hg2 : f = "worked_out"
      · subst hg2; rw [dk2 (by decide +kernel), dk1] at e; exact ⟨[], (Option.some.inj e).symm⟩
      · rw [dk2 (by simpa using hg), dk2 (by simpa using hg2)] at e; cases e
  refine ⟨y, dx, [], F, st0, fun vs1 F1 H1 st1 x1 => ⟨y, dx, vs1, F1, st1, fun vs2 F2 H2 st2 x2 => ⟨y, dx, vs2, F2, st2, fun vs3 F3 H3 st3 x3 => ⟨y, dx, vs3, F3, st3, fun vs4 F4 H4 st4 x4 => ⟨y, dx, vs4, F4, st4, fun vs5 F5 H5 st5 x5 => ⟨y, dx, vs5, F5, st5, fun vs6 F6 H6 st6 x6 => ⟨y, dx, vs6, F6, st6, fun vs7 F7 H7 st7 x7 => ?_⟩⟩⟩⟩⟩⟩⟩
  have X7 := (((((x1.trans x2 ⟨_, st1.ins⟩).trans x3 ⟨_, st2.ins⟩).trans x4 ⟨_, st3.ins⟩).trans x5 ⟨_, st4.ins⟩).trans x6 ⟨_, st5.ins⟩).trans x7 ⟨_, st6.ins⟩
  clear x1 x2 x3 x4 x5 x6 x7 st1 st2 st3 st4 st5 st6
  obtain ⟨hv, hv1, hv2⟩ := (st7.flds "half" _ dk1).get rfl
  refine ⟨_, st7.slf, y, CM, dx, vs7, hv, rfl, st7.ins, KM.cls, KM.n7, hv1, fun w dw hw hdw hne => ?_⟩
  have nyw : y ≠ w := fun e => by rw [← e, st7.ins] at hw; cases hw
  have nyd : y ≠ dw := fun e => by rw [← e, st7.ins] at hdw; cases hdw
  have s1 : Same H7 (upd (upd H7 dw (.own w)) w (.ins CW dw [])) := fun b o e => by
    rw [upd_ne (ne_of_none e hw), upd_ne (ne_of_none e hdw)]; exact e
  refine ⟨c.n, c.half, w, dw, hv, F7, rfl, hv2, st7.fh.trans s1, st7.fh.free hw, upd_same, fun H8 ls lc k8 z1 z2 sF wr => ⟨rfl, ?_⟩⟩
  have i8 : H8 y = some (.ins CM dx vs7) := k8 _ _ (s1 _ _ st7.ins) nyw
  have nyls : y ≠ ls := fun e => by rw [← e, s1 _ _ st7.ins] at z1; cases z1
  have nylc : y ≠ lc := fun e => by rw [← e, s1 _ _ st7.ins] at z2; cases z2
  refine ⟨_, st7.slf, y, CM, dx, vs7, rfl, i8, KM.cls, KM.n8, ?_, fun kd hkd => ⟨_, st7.slf, y, CM, dx, putF "writer" (.ref w) vs7, rfl, ?_, KM.cls, KM.n9, ?_, ?_⟩⟩
  · have := st7.few
    exact Nat.lt_of_le_of_lt this (Nat.le_of_ble_eq_true rfl)
  · have nyk : y ≠ kd := fun e => by rw [← e, upd_same] at hkd; cases hkd
    rw [upd_ne nyk, upd_same]
  · have h1 := length_putF "writer" (.ref w) vs7
    have h2 := st7.few
    exact Nat.lt_of_le_of_lt (Nat.le_trans h1 (Nat.succ_le_succ h2)) (Nat.le_of_ble_eq_true rfl)
  · have nyk : y ≠ kd := fun e => by rw [← e, upd_same] at hkd; cases hkd
    have h8k : H8 kd = none := by rwa [upd_ne (Ne.symm nyk)] at hkd
    obtain ⟨⟨dx2, fv2, w1, w2⟩, ⟨us1, w3, w4⟩, ⟨us2, w5, w6⟩, w7, w8, w9⟩ := wr
    have nkw : kd ≠ w := fun e => by rw [← e, h8k] at w1; cases w1
    have nkls : kd ≠ ls := fun e => by rw [← e, h8k] at w3; cases w3
    have nklc : kd ≠ lc := fun e => by rw [← e, h8k] at w5; cases w5
    have keep : ∀ b o, H8 b = some o → b ≠ y → upd (upd (upd H8 y (.ins CM dx (putF "writer" (.ref w) vs7))) kd (.dK [])) y (.ins CM dx (putF "known" (.ref kd) (putF "writer" (.ref w) vs7))) b = some o := fun b o e hb => by
      rw [upd_ne hb, upd_ne (ne_of_none e h8k), upd_ne hb]; exact e
    have keep7 : ∀ b o, H7 b = some o → b ≠ y → H8 b = some o := fun b o e hb => k8 _ _ (s1 _ _ e) (ne_of_none e hw)
    have keep0 : ∀ b o, H b = some o → b ≠ y → H8 b = some o := fun b o e hb => keep7 _ _ (X7.hh _ _ e hb) hb
    have keepW : ∀ b o, H b = some o → b ≠ y → upd (upd H7 dw (.own w)) w (.ins CW dw []) b = some o := fun b o e hb => s1 _ _ (X7.hh _ _ e hb)
    refine q w kd ls lc F7 _ ⟨⟨dx, _, upd_same, fun f d e => (st7.flds f d e).other ?_, ?_, ?_⟩, ?_, sF.free h8k, ⟨⟨dx2, fv2, keep _ _ w1 (Ne.symm nyw), w2⟩, ⟨us1, keep _ _ w3 (Ne.symm nyls), w4⟩, ⟨us2, keep _ _ w5 (Ne.symm nylc), w6⟩, w7, w8, w9⟩⟩ X7.ff (fun b o e => keep _ _ (sF _ _ e) fun z => by rw [z, st7.fx] at e; cases e) (fun b o e hb => keep _ _ (keep0 _ _ e hb) hb) X7.nw (keep_none keep0 (Ne.symm nyk) h8k) (keep_none keepW (Ne.symm nyls) z1) (keep_none keepW (Ne.symm nylc) z2)
    · rw [lookup_putF, if_neg, lookup_putF, if_neg]
      · intro z; rw [z, fm_wr] at e; cases e
      · intro z; rw [z, fm_kn] at e; cases e
    · rw [lookup_putF, if_neg (by decide), lookup_putF, if_pos rfl]
    · rw [lookup_putF, if_pos rfl]
    · show upd _ y _ kd = _
      rw [upd_ne (Ne.symm nyk), upd_same]; rfl
end
end Rb
/-! rising_half where the division is rising -/
namespace Rb
open PySem PySem.Spec L2
def HalfD (c : Mc) (d : PyData) : Prop := ∃ ms mcls, d = .tuple [.int c.side, .tuple (ms.map sD)] ∧ Der c.n c.half ms mcls ∧ mcls.getLast? = some [] ∧ ms.length ≤ c.ss.length ∧ ∀ x ∈ mcls, ∃ j, Kept c j x
abbrev pHalf : Sp := spK (T := Mc) (fun c => [fD c.n c.cs, cD c.div, .tuple (c.ss.map sD), cD c.cube].map .dat) Mc.Good HalfD
theorem arOk_dats {H0 H0' F H H' : Hp} : ∀ {vs : List V} {ds : List PyData}, ArOk H0 F H vs (ds.map .dat) → ArOk H0' F H' vs (ds.map .dat) := by
  intro vs ds
  induction ds generalizing vs with
  | nil => intro h; cases h; exact .nil
  | cons d ds ih =>
    intro h
    cases h with
    | cons h1 h2 => exact .cons h1 (ih h2)
theorem Mc.Good.pos {c : Mc} (good : c.Good) : 0 < c.ss.length := by
  have h := good.der.1
  have hl := good.last
  cases hc : c.cls with
  | nil => rw [hc] at hl; cases hl
  | cons x r => rw [hc] at h; simp at h; omega
theorem Mc.Good.lastC {c : Mc} (good : c.Good) : c.C (c.ss.length - 1) = [] := by
  have hl := good.last
  unfold Mc.C
  rw [List.getLast?_eq_getElem?, good.der.1] at hl
  rw [List.getD_eq_getElem?_getD, hl]; rfl
theorem Mc.Good.visL {c : Mc} (good : c.Good) : Vis c (c.ss.length - 1) := by
  refine ⟨by have := good.pos; omega, ?_, fun l hl => by rw [good.lastC] at hl; cases hl⟩
  unfold Mc.val
  rw [List.getLast?_eq_getElem?, gv_len, List.getD_eq_getElem?_getD]
theorem Mc.inv0 {c : Mc} : c.Inv ⟨[], [], []⟩ 0 := ⟨⟨rfl, fun k s h => by cases h⟩, .nil, fun p hp => (by cases hp), fun x hx => (by cases hx), Nat.zero_le _⟩
theorem Gw.frz1 {F0 H0 F H : Hp} (g : Gw F0 H0 F H) {l : Addr} {o : HO} (hl : H l = some o) (z : H0 l = none) : Gw F0 H0 (upd F l o) H :=
  ⟨g.hh, fun b u e => by
    by_cases hb : b = l
    · have := g.ff b u e
      rw [hb] at this ⊢
      rw [upd_same, ← hl]
      exact g.fh _ _ this
    · rw [upd_ne hb]; exact g.ff b u e, same_up g.fh hl, fun b u e => by
    by_cases hb : b = l
    · exact .inr (by rw [hb]; exact z)
    · rw [upd_ne hb] at e; exact g.nw b u e⟩
section
variable {X : Cx} {k : Nat} {CM CW : Addr}
theorem b_half (KM : MkCls X.K CM) (KW : WrCls X.K CW) [fx : Fx X (defScope sP_rising_half) nP_rising_half k] [fl : Fl X] (hk : 103 ≤ k) (h1 : Ks X 7 "RisingMaker" CM (spMI CM CW)) (h2 : Ms X 103 CM "place" (spPl CM CW 47)) (h3 : Hs X "pruned_to" 2 pPruned) (vs : List V) (H : Hp) (Q : VK) (E : XK) (h : pHalf vs H Q E) : ∃ t, PSs X (defBody sP_rising_half) t ∧ t { nx := fun _ H' => Q .non H', rt := Q } (L2.start nP_rising_half vs) H := by
  obtain ⟨c, F0, H0, F, good, g, a1, a2, q⟩ := h
  obtain ⟨v1, v2, v3⟩ := vis_of (X := X) (x := "maker") fx.hsc (by decide +kernel)
  obtain ⟨w1, w2, w3⟩ := vis_of (X := X) (x := "last") fx.hsc (by decide +kernel)
  have em := fun p => pe_var (X := X) (pos := p) (i := 4) (x := "maker") (by rw [fx.hN]; rfl) v1 v2 v3
  have el := fun p => pe_var (X := X) (pos := p) (i := 5) (x := "last") (by rw [fx.hN]; rfl) w1 w2 w3
  obtain ⟨mf, mfd, mps, mm, mF, mg, mb⟩ := h1.ex
  obtain ⟨pf, pfd, pps, pc, pm, pF, pb⟩ := h2.ex
  obtain ⟨rf, rfd, rps, rm, rk, rb, rF⟩ := h3.ex
  let ds : List PyData := [fD c.n c.cs, cD c.div, .tuple (c.ss.map sD), cD c.cube]
  let ρ : List Sl := ds.map .dat ++ [.any, .any]
  refine ⟨_, pss_cons (ps_set (i := 4) (by rw [fx.hN]; exact fx.nd) (by rw [fx.hN]; rfl) (loc_of fx.hsc (by decide +kernel)) (pe_make mm mF (fx.room.mono (by omega)) (gl_of fx.hsc (by decide +kernel)).1 mg mb (.nil : Vals [] []) pass0
      (DA.fr (ρ := ρ) (ds := ds) (a_d (e_v 0 rfl rfl) (a_d (e_v 1 rfl rfl) (a_d (e_v 2 rfl rfl) (a_d (e_v 3 rfl rfl) a_nil)))))) rfl (.inl (fl.fn _)))
    (pss_cons (ps_set (i := 5) (by rw [fx.hN]; exact fx.nd) (by rw [fx.hN]; rfl) (loc_of fx.hsc (by decide +kernel)) (pe_meth (pl := _) (em _) pc pm pF (fx.room.mono hk) pb (.nil : Vals [] []) pass0
      (pa_cons (DE.fr (ρ := ρ) (d := .int ((c.ss.map sD).length - 1)) (e_sub (e_lenT (e_v 2 rfl rfl)) e_int)) pa_nil) rfl rfl rfl) rfl (.inl (fl.fn _)))
    (pss_cons (ps_ret (pe_tupF (pa_cons (pe_fld (em _) rfl) (pa_cons (pe_call rF (fx.room.mono (by omega)) (gl_of fx.hsc (by decide +kernel)).1 rm rk rb (.nil : Vals [] []) pass0 (pa_cons (pe_fld (pe_fld (em _) rfl) rfl) (pa_cons (el _) pa_nil))) pa_nil)))) pss_nil)), ?_⟩
  have R0 : Rep H0 ρ (L2.start nP_rising_half vs) F H := rep_start (N := nP_rising_half) a1 a2
  have hp : ∀ s ∈ ρ, s.plain = true := fun s hs => by
    rcases List.mem_append.mp hs with hs | hs
    · obtain ⟨y, _, rfl⟩ := List.mem_map.mp hs; rfl
    · simp at hs; rw [hs]; rfl
  refine ⟨F, g.fh, R0.plains hp (Same.refl _), fun us F1 H1 g1 i1 y dy hy hdy hne => ?_⟩
  have y0 : H0 y = none := g.hh.free (g1.hh.free hy)
  have g01 : Gw F0 H0 F1 H1 := g.trans g1
  have sH : Same H1 (upd (upd H1 dy (.own y)) y (.ins CM dy [])) := fun b o e => by
    rw [upd_ne (ne_of_none e hy), upd_ne (ne_of_none e hdy)]; exact e
  refine ⟨c, y, dy, us, F1, by rw [List.append_nil], good, g1.fh.trans sH, g1.fh.free hy, upd_same, arOk_dats i1, fun w kd ls lc F2 H2 mk2 s2 fh2 keep2 nw2 z1 z2 z3 => ⟨rfl, ?_⟩⟩
  have k02 : ∀ b o, H0 b = some o → H2 b = some o := fun b o e => keep2 _ _ (sH _ _ (g01.hh _ _ e)) (ne_of_none e y0)
  have g02 : Gw F0 H0 F2 H2 := ⟨k02, g01.ff.trans s2, fh2, fun b o e => by
    rcases nw2 b o e with h | h
    · exact g01.nw b o h
    · exact .inr (g01.hh.free (sH.free h))⟩
  have zz : ∀ b, (upd (upd H1 dy (.own y)) y (.ins CM dy [])) b = none → H0 b = none := fun b e => g01.hh.free (sH.free e)
  -- last = maker.place(len(steps) - 1)
  obtain ⟨dx, fvs, b1, b2, b3, b4⟩ := mk2.ex
  have R2 : Rep H0 ρ ((L2.start nP_rising_half vs).set 4 (some (.ref y))) F2 H2 := ((R0.plains hp (g1.ff.trans s2)).set (i := 4) (s := .any) trivial (fun a ea => by cases ea))
  refine ⟨_, ?_, y, dx, fvs, rfl, b1, b2 _ _ fm_place, F2, fh2, R2.plains hp (Same.refl _), fun u F3 H3 g3 i3 => ?_⟩
  · rw [List.getElem?_set_self (by rw [← R0.len]; exact Nat.le_of_ble_eq_true rfl)]
  rw [i3.int_inv]
  have hlen : ((c.ss.map sD).length : Int) - 1 = ((c.ss.length - 1 : Nat) : Int) := by have := good.pos; rw [List.length_map]; omega
  rw [hlen]
  refine ⟨c, ⟨CM, CW, y, w, kd, ls, lc⟩, ⟨[], [], []⟩, c.ss.length - 1, F0, H0, F3, rfl, good, rfl, rfl, mk2.mono g3, Mc.inv0, good.visL, by have := good.few; omega, g02.trans g3, zz _ z1, zz _ z2, zz _ z3, fun st' i F4 H4 po g4 s4 mk4 => ?_⟩
  obtain ⟨dx4, fv4, c1, c2, c3, c4⟩ := mk4.ex
  obtain ⟨⟨dw, fw, d1, d2, d3, d4, d5, d6⟩, ⟨sus, e1, e2, e3⟩, _, f1, f2, ne⟩ := id mk4.wr
  obtain ⟨sv, hs1, hs2⟩ := (c2 "side" _ fm_side).get rfl
  obtain ⟨xi, xi1, xi2⟩ := po.at_
  have hi : i < st'.ws.length := by rw [← po.inv.der.1]; exact (List.getElem?_eq_some_iff.mp xi1).1
  have hnil : xi = [] := by
    cases xi with
    | nil => rfl
    | cons l r => have := (xi2.2 l List.mem_cons_self).1; rw [good.lastC] at this; cases this
  subst hnil
  have hkl := po.inv.knlen
  have hfew := po.inv.few
  have := good.few
  have hσ : ∀ (a b : V), (((L2.start nP_rising_half vs).set 4 (some a)).set 5 (some b))[4]? = some (some a) := fun a b => by
    rw [List.getElem?_set_ne (by decide), List.getElem?_set_self (by rw [← R0.len]; exact Nat.le_of_ble_eq_true rfl)]
  have hσ5 : ∀ (a b : V), (((L2.start nP_rising_half vs).set 4 (some a)).set 5 (some b))[5]? = some (some b) := fun a b => by
    rw [List.getElem?_set_self (by rw [List.length_set, ← R0.len]; exact Nat.le_of_ble_eq_true rfl)]
  refine ⟨_, hσ _ _, y, CM, dx4, fv4, sv, rfl, c1, KM.cls, KM.n6, hs1, _, hσ _ _, y, CM, dx4, fv4, .ref w, rfl, c1, KM.cls, KM.n8, c3, w, CW, dw, fw, .ref ls, rfl, d1, KW.cls, KW.n2, d3, _, hσ5 _ _, ?_⟩
  have g5 := g4.frz1 e1 (zz _ z2)
  refine ⟨⟨c.n, c.half, st'.ws, st'.wcls, i⟩, upd F4 ls (.lst sus), H4, upd F4 ls (.lst sus), ⟨po.inv.der, hi, by show st'.ws.length ≤ 60; omega⟩, Gw.refl g5.fh, .cons ⟨_, rfl, .lst upd_same (dqA_mono (same_new f1) _ _ e2), sz_list.mpr ⟨by rw [← dqA_len e2]; exact e3.2, e3.1⟩⟩ (.cons ⟨_, rfl, is_int⟩ .nil), apart_dats (ds := [.list (st'.ws.map sD), .int i]), fun v d F6 H6 rd g6 s6 _ i6 => ⟨Nat.le_of_ble_eq_true rfl, fun p o hp6 ho => ?_⟩⟩
  obtain ⟨ms, mcls, rfl, m1, m2, m3, m4⟩ := rd
  have gw := Gw.dat (o := .frz o (.tup [sv, v])) g6.fh hp6
  have gN := (g5.trans g6).trans gw
  have fN : Same F4 (upd F6 p (.frz o (.tup [sv, v]))) := (same_new f1).trans (s6.trans gw.ff)
  refine q (.ref p) (.tuple [.int c.side, .tuple (ms.map sD)]) _ _ ⟨ms, mcls, rfl, m1, by rw [m2]; exact xi1, by show ms.length ≤ _; have : ms.length ≤ st'.ws.length := m3; omega, fun x hx => po.inv.wid x (m4 x hx)⟩ gN ((g1.ff.trans (s2.trans (g3.ff.trans s4))).trans fN) (fun s hs => ?_) ?_
  · obtain ⟨y, _, rfl⟩ := List.mem_map.mp hs; trivial
  · have ia : ArOk H4 (upd F6 p (.frz o (.tup [sv, v]))) H4 [sv, v] ([.int c.side, .tuple (ms.map sD)].map .dat) := .cons ⟨_, rfl, hs2.mono fN⟩ (.cons ⟨_, rfl, i6.mono gw.ff⟩ .nil)
    obtain ⟨j2, j3⟩ := ar_dats ia
    exact ⟨.tup (tp_new ho) j2, sz_tuple.mpr ⟨Nat.le_of_ble_eq_true rfl, j3⟩⟩
end
end Rb
/-! the plain law of the names -/
namespace Rb
open PySem PySem.Spec L2
section
variable {ns : List Int} {l m : Int} {n : Nat} {c p q : List Int}
theorem NamesOk.neg (h : NamesOk ns l) : NamesOk ns (-l) := ⟨by have := h.1; omega, by have := h.2.2; omega, by have := h.2.1; omega⟩
theorem nameOf_pos (hn : NmOk ns) (h : NamesOk ns l) (hp : 0 < l) : nameOf ns l = l ∨ nameOf ns l = -l := by
  unfold nameOf
  rw [if_pos hp]
  obtain ⟨j, rfl⟩ : ∃ j : Nat, l = (j : Int) + 1 := ⟨(l - 1).toNat, by omega⟩
  have hj : j < ns.length := by have := h.2.2; omega
  rw [show ((j : Int) + 1 - 1) = (j : Int) by omega, atI_nn (List.getElem?_eq_getElem hj), Option.getD_some]
  rcases hn j hj with e | e
  · exact .inl e
  · exact .inr e
theorem nameOf_neg (h : l ≠ 0) : nameOf ns (-l) = -nameOf ns l := by
  unfold nameOf
  by_cases hp : 0 < l
  · rw [if_pos hp, if_neg (by omega), show -(-l) - 1 = l - 1 by omega]
  · rw [if_neg hp, if_pos (by omega), Int.neg_neg]
theorem nameOf_pm (hn : NmOk ns) (h : NamesOk ns l) : nameOf ns l = l ∨ nameOf ns l = -l := by
  by_cases hp : 0 < l
  · exact nameOf_pos hn h hp
  · have h2 := nameOf_pos hn h.neg (by have := h.1; omega)
    rw [nameOf_neg h.1] at h2
    omega
theorem nameOf_inj (hn : NmOk ns) (h : NamesOk ns l) (h2 : NamesOk ns m) (e : nameOf ns l = nameOf ns m) : l = m := by
  have a := nameOf_pm hn h
  have b := nameOf_pm hn h2
  by_cases hlm : l = m
  · exact hlm
  · have hm : m = -l := by omega
    subst hm
    rw [nameOf_neg h.1] at e
    have := h.1
    omega
theorem renC_iff {x : Int} : x ∈ renC ns c ↔ ∃ l ∈ c, nameOf ns l = x := by
  unfold renC
  rw [sortI_mem, List.mem_map]
theorem renC_len : (renC ns c).length = c.length := by unfold renC; rw [(sortI_perm _).length_eq, List.length_map]
theorem renC_in (hn : NmOk ns) (hc : ∀ l ∈ c, NamesOk ns l) (h : NamesOk ns l) : nameOf ns l ∈ renC ns c ↔ l ∈ c := by
  rw [renC_iff]
  constructor
  · rintro ⟨m, hm, e⟩
    rw [← nameOf_inj hn (hc m hm) h e]; exact hm
  · exact fun hl => ⟨l, hl, rfl⟩
theorem renC_in' (hn : NmOk ns) (hc : ∀ l ∈ c, NamesOk ns l) (h : NamesOk ns l) : -nameOf ns l ∈ renC ns c ↔ -l ∈ c := by
  rw [← nameOf_neg h.1]; exact renC_in hn hc h.neg
theorem Cl.ok (h : Cl n c) (hl : ns.length = n) : ∀ l ∈ c, NamesOk ns l := fun l hm => by
  obtain ⟨a, b, d⟩ := h.2.1 l hm
  exact ⟨a, by rw [hl]; exact b, by rw [hl]; exact d⟩
theorem Cl.ren (h : Cl n c) (hn : NmOk ns) (hl : ns.length = n) : Cl n (renC ns c) := by
  have ok := h.ok hl
  refine ⟨sortI_lt ?_, fun x hx => ?_, fun x hx hx2 => ?_⟩
  · have nd : c.Nodup := h.1.imp fun hab => by omega
    rw [List.nodup_iff_pairwise_ne] at nd ⊢
    rw [List.pairwise_map]
    exact List.Pairwise.imp_of_mem (fun ha hb hab e => hab (nameOf_inj hn (ok _ ha) (ok _ hb) e)) nd
  · obtain ⟨l, hm, rfl⟩ := renC_iff.mp hx
    have := nameOf_pm hn (ok l hm)
    have := h.2.1 l hm
    omega
  · obtain ⟨l, hm, rfl⟩ := renC_iff.mp hx
    exact h.2.2 l hm ((renC_in' hn ok (ok l hm)).mp hx2)
theorem Fm.ren {cs : List (List Int)} (h : Fm n cs) (hn : NmOk ns) (hl : ns.length = n) : Fm n (renF ns cs) := by
  refine ⟨h.1, ?_, fun c hc => ?_⟩
  · unfold renF; rw [(sortC_perm _).length_eq, List.length_map]; exact h.2.1
  · unfold renF at hc
    rw [sortC_mem] at hc
    obtain ⟨d, hd, rfl⟩ := List.mem_map.mp hc
    exact (h.2.2 d hd).ren hn hl
theorem resolv_of {r : List Int} {v : Int} (hp : v ∈ p) (hq : -v ∈ q) (hr : r.Pairwise (· < ·)) (hm : ∀ x, x ∈ r ↔ (x ∈ p ∧ x ≠ v) ∨ (x ∈ q ∧ x ≠ -v)) (ht : ∀ l ∈ r, -l ∉ r) : resolv p q v = some r := by
  have hmem : ∀ x, x ∈ (p.filter fun a => !decide (a = v)) ++ (q.filter fun b => !decide (b = -v)) ↔ x ∈ r := fun x => by
    rw [List.mem_append, List.mem_filter, List.mem_filter, hm x]
    simp
  unfold resolv
  rw [decide_eq_true hp, decide_eq_true hq]
  unfold made
  rw [Bool.and_self, if_pos rfl, if_pos, ← ssI_eq hr (fun c => (hmem c).symm)]
  rw [List.isEmpty_iff, List.filter_eq_nil_iff]
  intro l hl hx
  exact ht l ((hmem l).mp hl) ((hmem _).mp (of_decide_eq_true hx))
theorem resolv_mem {r : List Int} {v : Int} (h : resolv p q v = some r) : ∀ x, x ∈ r ↔ (x ∈ p ∧ x ≠ v) ∨ (x ∈ q ∧ x ≠ -v) := fun x => by
  obtain ⟨_, _, e, _⟩ := resolv_inv h
  rw [e, ssI_mem, List.mem_append, List.mem_filter, List.mem_filter]
  simp
end
end Rb
/-! the plain law of the renamed steps -/
namespace Rb
open PySem PySem.Spec L2
section
variable {ns : List Int} {n : Nat} {p q r : List Int} {cs cls : List (List Int)}
theorem renC_but (hn : NmOk ns) {c : List Int} {l : Int} (hc : ∀ l ∈ c, NamesOk ns l) (h : NamesOk ns l) {x : Int} : (x ∈ renC ns c ∧ x ≠ nameOf ns l) ↔ ∃ m ∈ c, m ≠ l ∧ nameOf ns m = x := by
  rw [renC_iff]
  constructor
  · rintro ⟨⟨m, hm, rfl⟩, hne⟩
    exact ⟨m, hm, fun e => hne (by rw [e]), rfl⟩
  · rintro ⟨m, hm, hne, rfl⟩
    exact ⟨⟨m, hm, rfl⟩, fun e => hne (nameOf_inj hn (hc m hm) h e)⟩
theorem ren_split (hn : NmOk ns) {v : Int} (okp : ∀ l ∈ p, NamesOk ns l) (okq : ∀ l ∈ q, NamesOk ns l) (hv : NamesOk ns v) (h : resolv p q v = some r) : ∀ x, x ∈ renC ns r ↔ (x ∈ renC ns p ∧ x ≠ nameOf ns v) ∨ (x ∈ renC ns q ∧ x ≠ -nameOf ns v) := fun x => by
  rw [← nameOf_neg hv.1, renC_but hn okp hv, renC_but hn okq hv.neg, renC_iff]
  constructor
  · rintro ⟨l, hl, rfl⟩
    rcases (resolv_mem h l).mp hl with ⟨a, b⟩ | ⟨a, b⟩
    · exact .inl ⟨l, a, b, rfl⟩
    · exact .inr ⟨l, a, b, rfl⟩
  · rintro (⟨l, a, b, rfl⟩ | ⟨l, a, b, rfl⟩)
    · exact ⟨l, (resolv_mem h l).mpr (.inl ⟨a, b⟩), rfl⟩
    · exact ⟨l, (resolv_mem h l).mpr (.inr ⟨a, b⟩), rfl⟩
theorem resolv_ren (hn : NmOk ns) (hl : ns.length = n) {v : Int} (hp : Cl n p) (hq : Cl n q) (hr : Cl n r) (hv : NamesOk ns v) (h : resolv p q v = some r) :
    (nameOf ns v = v → resolv (renC ns p) (renC ns q) v = some (renC ns r)) ∧ (nameOf ns v = -v → resolv (renC ns q) (renC ns p) v = some (renC ns r)) := by
  obtain ⟨h1, h2, _, _⟩ := resolv_inv h
  have sp := ren_split hn (hp.ok hl) (hq.ok hl) hv h
  have cr := hr.ren hn hl
  have i1 := (renC_in hn (hp.ok hl) hv).mpr h1
  have i2 := (renC_in' hn (hq.ok hl) hv).mpr h2
  constructor
  · intro e
    rw [e] at sp i1 i2
    exact resolv_of i1 i2 cr.1 sp cr.2.2
  · intro e
    rw [e] at sp i1 i2
    rw [Int.neg_neg] at i2
    refine resolv_of i2 i1 cr.1 (fun x => ?_) cr.2.2
    rw [sp x, Int.neg_neg]
    exact Or.comm
theorem atI_name {v : Nat} (h1 : 1 ≤ v) : (atI ns ((v : Int) - 1)).getD 0 = nameOf ns (v : Int) := by
  unfold nameOf; rw [if_pos (by omega)]
theorem fits_ren (hn : NmOk ns) (hl : ns.length = n) (hcs : ∀ c ∈ cs, Cl n c) (hcls : ∀ c ∈ cls, Cl n c) {s : Stp} {c : List Int} (h : Fits n cs cls s c) : Fits n (renF ns cs) (cls.map (renC ns)) (renS ns cs (renF ns cs) s) (renC ns c) := by
  have hc := fits_cl hcs hcls h
  cases s with
  | ax i =>
    have hi : cs[i]? = some c := h
    obtain ⟨hlt, ei⟩ := List.getElem?_eq_some_iff.mp hi
    have hm := renC_mem (ns := ns) (List.mem_of_getElem? hi)
    show (renF ns cs)[(renF ns cs).idxOf (renC ns (cs.getD i []))]? = some (renC ns c)
    rw [getD_get hlt, ei, List.getElem?_eq_getElem (List.idxOf_lt_length_of_mem hm), List.getElem_idxOf (List.idxOf_lt_length_of_mem hm)]
  | wk a c' =>
    obtain ⟨p, h1, h2, rfl, h4⟩ := h
    refine ⟨renC ns p, by rw [List.getElem?_map, h1]; rfl, fun x hx => ?_, rfl, h4.ren hn hl⟩
    obtain ⟨l, hm, rfl⟩ := renC_iff.mp hx
    exact renC_iff.mpr ⟨l, h2 l hm, rfl⟩
  | res a b v =>
    obtain ⟨p, q, h1, h2, h3, h4, h5, h6, h7⟩ := h
    have hp := hcls p (List.mem_of_getElem? h1)
    have hq := hcls q (List.mem_of_getElem? h2)
    have hv := hp.ok hl _ h4
    obtain ⟨r1, r2⟩ := resolv_ren hn hl hp hq hc hv h6
    have i1 := (renC_in hn (hp.ok hl) hv).mpr h4
    have i2 := (renC_in' hn (hq.ok hl) hv).mpr h5
    have e1 : (cls.map (renC ns))[a]? = some (renC ns p) := by rw [List.getElem?_map, h1]; rfl
    have e2 : (cls.map (renC ns))[b]? = some (renC ns q) := by rw [List.getElem?_map, h2]; rfl
    show Fits n _ _ (let l := (atI ns ((v : Int) - 1)).getD 0; if 0 < l then Stp.res a b l.toNat else Stp.res b a (-l).toNat) _
    rw [atI_name h3]
    rcases nameOf_pm hn hv with e | e
    · have r := r1 e
      rw [e] at i1 i2 ⊢
      rw [if_pos (by omega), Int.toNat_natCast]
      exact ⟨_, _, e1, e2, h3, i1, i2, r, by rw [renC_len, renC_len]; exact h7⟩
    · have r := r2 e
      rw [e] at i1 i2 ⊢
      rw [Int.neg_neg] at i2
      rw [if_neg (by omega), Int.neg_neg, Int.toNat_natCast]
      exact ⟨_, _, e2, e1, h3, i2, i1, r, by rw [renC_len, renC_len]; omega⟩
theorem Der.ren (hn : NmOk ns) (hl : ns.length = n) (hcs : ∀ c ∈ cs, Cl n c) {ss : List Stp} (h : Der n cs ss cls) : Der n (renF ns cs) (ss.map (renS ns cs (renF ns cs))) (cls.map (renC ns)) := by
  have hcl := h.cl hcs
  refine ⟨by rw [List.length_map, List.length_map]; exact h.1, fun i s hs => ?_⟩
  rw [List.getElem?_map] at hs
  cases q : ss[i]? with
  | none => rw [q] at hs; cases hs
  | some t =>
    rw [q] at hs
    cases hs
    obtain ⟨c, h1, h2⟩ := h.2 i t q
    refine ⟨renC ns c, by rw [List.getElem?_map, h1]; rfl, ?_⟩
    rw [← List.map_take]
    exact fits_ren hn hl hcs (fun c hc => hcl c (List.mem_of_mem_take hc)) h2
theorem renC_nil : renC ns [] = [] := List.eq_nil_of_length_eq_zero (by rw [renC_len]; rfl)
theorem ren_last (h : cls.getLast? = some []) : (cls.map (renC ns)).getLast? = some [] := by rw [List.getLast?_map, h, Option.map_some, renC_nil]
/-- what renamed_steps asks -/
theorem Der.renPre (hl : ns.length = n) (hcs : ∀ c ∈ cs, Cl n c) {ss : List Stp} (h : Der n cs ss cls) : ∀ s ∈ ss, RenPre ns n cs (renF ns cs) s := fun s hs => by
  have hcl := h.cl hcs
  obtain ⟨i, hi, e⟩ := List.getElem_of_mem hs
  obtain ⟨c, h1, h2⟩ := h.2 i s (by rw [List.getElem?_eq_getElem hi, e])
  cases s with
  | ax j =>
    have hj : cs[j]? = some c := h2
    obtain ⟨hlt, ej⟩ := List.getElem?_eq_some_iff.mp hj
    refine ⟨hlt, ?_, ?_⟩
    · rw [getD_get hlt, ej]; exact (hcs c (List.mem_of_getElem? hj)).ok hl
    · rw [getD_get hlt, ej]; exact renC_mem (List.mem_of_getElem? hj)
  | wk a c' => obtain ⟨p, _, _, _, h4⟩ := h2; exact h4.ok hl
  | res a b v =>
    obtain ⟨p, q, g1, g2, g3, g4, _⟩ := h2
    have := (hcl p (List.mem_of_mem_take (List.mem_of_getElem? g1))).2.1 _ g4
    exact ⟨g3, by omega⟩
end
end Rb
/-! the plain law of the signs, of the values that grow -/
namespace Rb
open PySem PySem.Spec L2
structure Sgn (n : Nat) (vs c : List Int) : Prop where
  cl : Cl n c
  sub : ∀ l ∈ c, absI l ∈ vs
  full : ∀ v ∈ vs, v ∈ c ∨ -v ∈ c
theorem withC_iff {c : List Int} {l x : Int} : x ∈ withC c l ↔ x ∈ c ∨ x = l := by
  unfold withC
  rw [sortI_mem, List.mem_append, List.mem_singleton]
theorem absI_neg {l : Int} : absI (-l) = absI l := by unfold absI; split <;> split <;> omega
theorem absI_of {v : Int} (h : 0 ≤ v) : absI v = v := by unfold absI; rw [if_neg (by omega)]
theorem withC_Cl {n : Nat} {c : List Int} {l : Int} (h : Cl n c) (h1 : l ≠ 0) (h2 : -(n : Int) ≤ l) (h3 : l ≤ n) (h4 : l ∉ c) (h5 : -l ∉ c) : Cl n (withC c l) := by
  refine ⟨sortI_lt ?_, fun x hx => ?_, fun x hx hy => ?_⟩
  · rw [List.nodup_append]
    refine ⟨h.1.imp fun hab => by omega, by simp, fun a ha b hb e => ?_⟩
    rw [List.mem_singleton.mp hb] at e
    exact h4 (e ▸ ha)
  · rcases withC_iff.mp hx with q | rfl
    · exact h.2.1 x q
    · exact ⟨h1, h2, h3⟩
  · rcases withC_iff.mp hx with q | rfl
    · rcases withC_iff.mp hy with r | r
      · exact h.2.2 x q r
      · exact h5 (by rw [← r, Int.neg_neg]; exact q)
    · rcases withC_iff.mp hy with r | r
      · exact h5 r
      · omega
theorem Sgn.step {n : Nat} {vs c : List Int} {v l : Int} (h : Sgn n vs c) (hv : 1 ≤ v) (hn : v ≤ n) (hv2 : v ∉ vs) (hl : l = v ∨ l = -v) : Sgn n (vs ++ [v]) (withC c l) := by
  have e : absI l = v := by rcases hl with rfl | rfl
                            · exact absI_of (by omega)
                            · rw [absI_neg]; exact absI_of (by omega)
  refine ⟨withC_Cl h.cl (by omega) (by omega) (by omega) (fun q => hv2 (e ▸ h.sub l q)) (fun q => hv2 (by have := h.sub _ q; rw [absI_neg, e] at this; exact this)), fun x hx => ?_, fun u hu => ?_⟩
  · rcases withC_iff.mp hx with q | rfl
    · exact List.mem_append_left _ (h.sub x q)
    · rw [e]; exact List.mem_append_right _ (List.mem_singleton.mpr rfl)
  · rcases List.mem_append.mp hu with q | q
    · rcases h.full u q with r | r
      · exact .inl (withC_iff.mpr (.inl r))
      · exact .inr (withC_iff.mpr (.inl r))
    · rw [List.mem_singleton.mp q]
      rcases hl with r | r
      · exact .inl (withC_iff.mpr (.inr r.symm))
      · exact .inr (withC_iff.mpr (.inr r.symm))
theorem signs_ok {n : Nat} {vs : List Int} (hs : vs.Nodup) (hr : ∀ v ∈ vs, 1 ≤ v ∧ v ≤ n) : ∀ c ∈ signs vs, Sgn n vs c := by
  have key : ∀ m, m ≤ vs.length → ∀ c ∈ signs (vs.take m), Sgn n (vs.take m) c := by
    intro m
    induction m with
    | zero =>
      intro _ c hc
      have e : c = [] := by
        cases hc with
        | head => rfl
        | tail _ h => cases h
      subst e
      exact ⟨⟨.nil, fun l hl => (by cases hl), fun l hl => (by cases hl)⟩, fun l hl => (by cases hl), fun v hv => (by cases hv)⟩
    | succ m ih =>
      intro hm c hc
      have hg := List.getElem?_eq_getElem (l := vs) (i := m) (by omega)
      rw [foldl_stepC_take vs hg] at hc
      have e : vs.take (m + 1) = vs.take m ++ [vs[m]] := by rw [List.take_add_one, hg]; rfl
      have hnot : vs[m] ∉ vs.take m := fun h => by
        obtain ⟨j, hj, ej⟩ := List.mem_take_iff_getElem.mp h
        have := (List.nodup_iff_pairwise_ne.mp hs)
        have := List.pairwise_iff_getElem.mp this j m (by omega) (by omega) (by omega)
        exact this ej
      have hv := hr vs[m] (List.getElem_mem _)
      rw [e]
      unfold stepC at hc
      obtain ⟨d, hd, hc⟩ := List.mem_flatMap.mp hc
      have sd := ih (by omega) d hd
      simp only [List.mem_cons, List.not_mem_nil, or_false] at hc
      rcases hc with rfl | rfl
      · exact sd.step hv.1 hv.2 hnot (.inr rfl)
      · exact sd.step hv.1 hv.2 hnot (.inl rfl)
  have := key vs.length (Nat.le_refl _)
  rwa [List.take_length] at this
end Rb
/-! the plain law of the values that grow; the maker's case from the law's -/
namespace Rb
open PySem PySem.Spec L2
def Gt.mon : Gt → Bool
  | .choose _ _ _ => false
  | _ => true
theorem gval_mono {f f' : List Bool} {cube cube' : List Int} (hc : ∀ v : Nat, (v : Int) ∈ cube → (v : Int) ∈ cube') (hf : ∀ a, f.getD a false = true → f'.getD a false = true) (g : Gt) (hg : g.mon = true) (h : gval f cube g = true) : gval f' cube' g = true := by
  cases g with
  | ff => cases h
  | tt => rfl
  | same a => exact hf a h
  | or a b =>
    simp only [gval, Bool.or_eq_true] at h ⊢
    exact h.imp (hf a) (hf b)
  | and a b =>
    simp only [gval, Bool.and_eq_true] at h ⊢
    exact ⟨hf a h.1, hf b h.2⟩
  | need v a b =>
    simp only [gval, Bool.and_eq_true, Bool.or_eq_true, decide_eq_true_eq] at h ⊢
    exact ⟨hf b h.1, h.2.imp (hc v) (hf a)⟩
  | choose v a b => cases hg
theorem gvals_mono {gs : List Gt} {cube cube' : List Int} (hc : ∀ v : Nat, (v : Int) ∈ cube → (v : Int) ∈ cube') (hg : ∀ g ∈ gs, g.mon = true) : ∀ a, (gvals cube gs).getD a false = true → (gvals cube' gs).getD a false = true := by
  have aux : ∀ (gs : List Gt) (f f' : List Bool), (∀ g ∈ gs, g.mon = true) → f.length = f'.length → (∀ a, f.getD a false = true → f'.getD a false = true) →
      ∀ a, (gs.foldl (fun f g => f ++ [gval f cube g]) f).getD a false = true → (gs.foldl (fun f g => f ++ [gval f cube' g]) f').getD a false = true := by
    intro gs
    induction gs with
    | nil => intro f f' _ _ h; exact h
    | cons g gs ih =>
      intro f f' hg hl h
      rw [List.foldl_cons, List.foldl_cons]
      refine ih _ _ (fun x hx => hg x (List.mem_cons_of_mem _ hx)) (by rw [List.length_append, List.length_append, hl]; rfl) fun a ha => ?_
      rw [List.getD_eq_getElem?_getD] at ha ⊢
      by_cases h1 : a < f.length
      · rw [List.getElem?_append_left h1] at ha
        rw [List.getElem?_append_left (by omega)]
        have := h a (by rw [List.getD_eq_getElem?_getD]; exact ha)
        rw [List.getD_eq_getElem?_getD] at this; exact this
      · rw [List.getElem?_append_right (by omega)] at ha
        rw [List.getElem?_append_right (by omega)]
        by_cases h2 : a = f.length
        · subst h2
          rw [Nat.sub_self] at ha
          rw [hl, Nat.sub_self]
          exact gval_mono hc h g (hg g List.mem_cons_self) ha
        · have : a - f.length ≥ 1 := by omega
          rw [List.getElem?_eq_none (by simpa using this)] at ha
          cases ha
  exact aux gs [] [] hg rfl fun _ h => h
theorem gatesOf_mon {cs : List (List Int)} {div : List Int} {ss : List Stp} : ∀ g ∈ gatesOf cs div ss, g.mon = true := fun g hg => by
  unfold gatesOf at hg
  obtain ⟨s, _, rfl⟩ := List.mem_map.mp hg
  cases s with
  | ax i => simp only [gateOf]; split <;> rfl
  | wk a c => rfl
  | res a b v =>
    simp only [gateOf]
    split
    · rfl
    · split <;> rfl
theorem common_range {n : Nat} {cs : List (List Int)} {div : List Int} (h : Fm n cs) : ∀ v ∈ common cs div, 1 ≤ v ∧ v ≤ n := fun v hv => by
  obtain ⟨x, hx, l, hl, e⟩ := vars_mem.mp (common_mem.mp hv).1
  have := (h.2.2 x (side_sub x hx)).2.1 l hl
  unfold absI at e
  split at e <;> omega
theorem common_nodup {cs : List (List Int)} {div : List Int} : (common cs div).Nodup := by
  unfold common vars
  have h : (ssI ((sideC cs div 1).flatMap fun c => c.map absI)).Nodup := ssI_lt.imp fun hab => by omega
  exact h.filter _
theorem good_of {n : Nat} {cs : List (List Int)} {div : List Int} {ss : List Stp} {cls : List (List Int)} {cube : List Int} (h : Fm n cs) (hr : rising cs div = true) (hd : Der n cs ss cls) (hl : cls.getLast? = some []) (hz : ss.length ≤ 48) (hc : cube ∈ signs (common cs div)) : Mc.Good ⟨n, cs, div, ss, cls, cube⟩ := by
  have s := signs_ok (n := n) common_nodup (common_range h) cube hc
  exact ⟨h, hr, hd, hl, hz, s.cl, s.sub, s.full⟩
/-- a cube with one sign turned up -/
theorem grow_vals {n : Nat} {cs : List (List Int)} {div : List Int} {ss : List Stp} {cube : List Int} {v : Int} : ∀ a, (gvals cube (gatesOf cs div ss)).getD a false = true → 0 < v → (gvals (withC (cube.filter fun l => !decide (l = -v)) v) (gatesOf cs div ss)).getD a false = true := fun a ha hv =>
  gvals_mono (fun u hu => withC_mem.mpr (by
    by_cases h : (u : Int) = -v
    · omega
    · exact .inl (List.mem_filter.mpr ⟨hu, by simpa using h⟩))) gatesOf_mon a ha
end Rb
/-! what raises: not rising -/
namespace Rb
open PySem PySem.Spec L2
section
variable {X : Cx} {ρ : List Sl} {sc : Scope} {N : List Str} {k : Nat} {a c e : Expr} {es rest : List Expr} {st : Stmt} {sts body : List Stmt} {pos p p1 p2 : Pos} {x : Str} {C : Addr} {E : XK}
theorem pa_nox {t : TA} (h : PA X.nox es t) : PA X es t := ⟨fun pos pins s σ H Q I hw =>
  wpAny_mono (h.run pos pins s σ H Q (I.wish _) hw) (fun _ _ ⟨v, H', I', r, q⟩ => ⟨v, H', I'.unwish, r, q⟩) fun _ _ z => False.elim z⟩
theorem ps_nox {t : TS} (h : PS X.nox st t) : PS X st t := ⟨fun pins s σ H D I hw =>
  wpAny_mono (h.run pins s σ H D (I.wish _) hw) (fun _ _ q => q.unwish) fun _ _ z => False.elim z⟩
/-- never reached -/
theorem pss_not : PSs X sts (fun _ _ _ => False) := ⟨fun pins s σ H D I h => h.elim⟩
/-- it raises -/
def tX (ρ : List Sl) (C : Addr) (E : XK) : TS := fun _ σ H => ∃ F0 H0 F, Gw F0 H0 F H ∧ Rep H0 ρ σ F H ∧ ∀ F' H', Gw F0 H0 F' H' → Same F F' → E (.ref C) none H'
abbrev Tk (X : Cx) (E : XK) : Prop := Takes X (fun cls d _ H => E cls d H)
def spX {T : Type} (C : Addr) (ar : T → List PyData) (pre : T → Prop) : Sp := fun vs H _ E => ∃ t F0 H0 F, pre t ∧ Gw F0 H0 F H ∧ ArOk H0 F H vs ((ar t).map .dat) ∧ ∀ F' H', Gw F0 H0 F' H' → Same F F' → E (.ref C) none H'
structure HasX (P : Program) (w : World) (K : PySem.W.Frag) (mg : Str → Option Value) (base : Heap) (x : Str) (k : Nat) (sp : Sp) : Prop where
  ex : ∃ (f : Addr) (fd : FuncData) (ps : List Str), mg x = some (.ref f) ∧ PySem.W.keepIn K (.ref f) = true ∧ Binds K fd ps [] ∧ FnOk P w K mg base (L2.CX P w) k f fd ps sp
abbrev HsX (X : Cx) (x : Str) (k : Nat) (sp : Sp) : Prop := HasX X.prog X.w X.K X.mg X.base x k sp
theorem HasX.at {P : Program} {w : World} {K : PySem.W.Frag} {mg : Str → Option Value} {base : Heap} {sp : Sp} (h : HasX P w K mg base x k sp) (c : Ctx P w K mg base X) : HsX X x k sp := by
  obtain ⟨rfl, rfl, rfl, rfl, rfl⟩ := c
  exact h
theorem hasX_of {P : Program} {w : World} {K : PySem.W.Frag} {mg : Str → Option Value} {base : Heap} {x : Str} {st : Stmt} {N ps : List Str} {k : Nat} {T : Type} {C : Addr} {ar : T → List PyData} {pre : T → Prop} (hf : At K mg x st) (S : FnScope N ps (defScope st)) (hbn : ∀ x ∈ BN, mg x = none)
    (hb : ∀ (kV doc pm : Value) (an : Option Addr) (cdv ct : Value) (us : List Value), us.length = ps.length → bindArgs (PySem.W.fnOf x x (defArgs st) (defBody st) (defScope st) .none kV doc pm an cdv ct) ⟨us, []⟩ = pure (ps.zip us)) (hl : ∀ t, (ar t).length = ps.length)
    (body : ∀ X : Cx, Ctx P w K mg base X → Fx X.nox (defScope st) N k → Fl X.nox → ∀ E, Tk X E → ∀ t, pre t → PSs X (defBody st) (tX ((ar t).map .dat ++ List.replicate (N.length - (ar t).length) .any) C E)) : HasX P w K mg base x (k + 1) (spX C ar pre) := by
  obtain ⟨f, fd, hm, F⟩ := hf.ex
  refine ⟨f, fd, ps, hm, F.kp, F.binds hb, F.okX S (fun vs H Q E h => ?_) (fun cdv A outer s H vs Q E hr h => ?_)⟩
  · obtain ⟨t, F0, H0, F', hp, g, ha, _⟩ := h
    rw [← hl t]
    have := Paired.length ha
    rwa [List.length_map] at this
  · obtain ⟨t, F0, H0, F', hp, g, ha, q⟩ := h
    have fx : Fx (cxOf (L2.CX P w) P w K mg base N x (defScope st) f cdv A outer s H E).nox (defScope st) N k := ⟨rfl, S.nd, rfl, S.kind, rfl, hr, hbn, rfl⟩
    have fl : Fl (cxOf (L2.CX P w) P w K mg base N x (defScope st) f cdv A outer s H E).nox := ⟨fun _ => rfl⟩
    have r := rep_start (N := N) ha apart_dats
    rw [List.length_map] at r
    exact ⟨_, body _ ⟨rfl, rfl, rfl, rfl, rfl⟩ fx fl E (takes_of rfl rfl rfl rfl) t hp, F0, H0, F', g, r, q⟩
/-- if c: raise .. -/
theorem x_if [fx : Fx X.nox sc N k] {m : Str} {j : Nat} {p3 p4 : Pos} {bmB : List Value} {B newId initId : String} (tk : Tk X E) (hc : DT X.nox ρ c true) (Fb : ExcBaseFacts B newId initId bmB) (q : PySem.W.excIn X.K C bmB newId = true) (gC : X.mg x = some (.ref C)) (kC : PySem.W.keepIn X.K (.ref C) = true) (r : Raises X (.ref C)) (hg : glB sc x = true := by decide +kernel) :
    PSs X (.If c [.Raise (some (.Call (.Name x p) [.Constant (.str m) j p2] [] p3)) none p4] [] pos :: sts) (tX ρ C E) := by
  refine PSs.weak (pss_cons (ps_if (PT.nox hc) (pss_one (ps_raise fx.calm tk (pmk_own Fb q gC kC r (gl_of fx.hsc hg).1 (gl_of fx.hsc hg).2))) pss_nil) pss_not) fun D σ H ⟨F0, H0, F, g, r, q⟩ => ⟨F0, H0, F, g, r, fun y F1 H1 p1 g1 s1 r1 => ?_⟩
  subst p1
  exact iteT (q F1 H1 g1 s1)
/-- a call that raises, as a statement -/
theorem x_call [fx : Fx X.nox sc N k] {T : Type} {ar : T → List PyData} {pre : T → Prop} {j : Nat} (tk : Tk X E) (h : HsX X x j (spX C ar pre)) (t : T) (ha : DA X.nox ρ (a :: rest) (fun as => as = (ar t).map .dat)) (hp : pre t) (hj : j ≤ k)
    (hg : glB sc x = true := by decide +kernel) (he : starEach (a :: rest) X.env = (false, eval a X.env) :: starEach rest X.env := by rfl) (hpl : (backTo pos (starEach rest X.env)).any (·.1) = false := by rfl) (hs : swapsWith (.Call (.Name x p) (a :: rest) [] pos) none p2.line X.env = pure false := by rfl) :
    PSs X (.Expr (.Call (.Name x p) (a :: rest) [] pos) p2 :: sts) (tX ρ C E) := by
  obtain ⟨f, fd, ps, h1, h2, h3, h4⟩ := h.ex
  obtain ⟨g1, g2⟩ := gl_of fx.hsc hg
  refine PSs.weak (pss_cons (ps_expr (pe_call h4 (fx.room.mono hj) g1 h1 h2 h3 (.nil : Vals [] []) (passes_call tk fun _ _ _ _ z => z) (pa_nox ha) g2 he hpl) hs) pss_not) fun D σ H ⟨F0, H0, F, g, r, q⟩ => ⟨F0, H0, F, g, r, fun vs as F1 H1 p1 g1 s1 r1 i1 => ?_⟩
  subst p1
  rw [List.append_nil]
  exact ⟨t, F0, H0, F1, hp, g1, i1, fun F' H' g' s' => q F' H' g' (s1.trans s')⟩
end
end Rb
/-! check_rising, rising_interpolant, the maker, rising_half: not rising -/
namespace Rb
open PySem PySem.Spec L2
abbrev bmVE : List Value := [.type "ValueError", .type "Exception", .type "BaseException", .type "object"]
structure NotRisingOk (K : PySem.W.Frag) (mg : Str → Option Value) (CN : Addr) : Prop where
  gC : mg "NotRising" = some (.ref CN)
  kC : PySem.W.keepIn K (.ref CN) = true
  xC : PySem.W.excIn K CN bmVE "ValueError.__new__" = true
  bC : PySem.W.subIn K (.ref CN) (.type "BaseException") = some true
  tC : PySem.W.typeIn K (.ref CN) = some (.type "type")
abbrev pCheckX (CN : Addr) : Sp := spX (T := Nat × List (List Int) × List Int) CN (fun p => [fD p.1 p.2.1, cD p.2.2]) (fun p => Fm p.1 p.2.1 ∧ rising p.2.1 p.2.2 = false)
abbrev pInterpX (CN : Addr) : Sp := spX (T := Nat × List (List Int) × List Int × List Stp) CN (fun p => [fD p.1 p.2.1, cD p.2.2.1, .tuple (p.2.2.2.map sD)]) (fun p => Fm p.1 p.2.1 ∧ rising p.2.1 p.2.2.1 = false)
section
variable {X : Cx} {k : Nat} {CN CM : Addr} {E : XK}
theorem d_checkX (n : Nat) (cs : List (List Int)) (div : List Int) (h : Fm n cs) (hr : rising cs div = false) (T : NotRisingOk X.K X.mg CN) [Fx X.nox (defScope sP_check_rising) nP_check_rising k] [Fl X.nox] (tk : Tk X E) (hk : 3 ≤ k) (h1 : Hs X.nox "is_rising" 3 pRising) : PSs X (defBody sP_check_rising) (tX [.dat (fD n cs), .dat (cD div)] CN E) :=
  x_if tk (t_T (t_not (t_val (e_call h1 (n, cs, div) (a_d (e_v 0 rfl rfl) (a_d (e_v 1 rfl rfl) a_nil)) h hk))) (by rw [hr]; rfl)) PySem.F.excBase_ValueError T.xC T.gC T.kC (raises_own T.bC T.tC)
theorem d_interpX (n : Nat) (cs : List (List Int)) (div : List Int) (ss : List Stp) (h : Fm n cs) (hr : rising cs div = false) [Fx X.nox (defScope sP_rising_interpolant) nP_rising_interpolant k] [Fl X.nox] (tk : Tk X E) (hk : 4 ≤ k) (h1 : HsX X "check_rising" 4 (pCheckX CN)) :
    PSs X (defBody sP_rising_interpolant) (tX [.dat (fD n cs), .dat (cD div), .dat (.tuple (ss.map sD)), .any, .any] CN E) :=
  x_call tk h1 (n, cs, div) (a_d (e_v 0 rfl rfl) (a_d (e_v 1 rfl rfl) a_nil)) ⟨h, hr⟩ hk
end
section
variable {X : Cx} {ρ : List Sl} {sc : Scope} {N : List Str} {k : Nat} {a b c e o : Expr} {es rest : List Expr} {sts : List Stmt} {pos p p1 p2 apos : Pos} {x m f : Str} {A C : Addr} {fs : List (Str × PyData)} {d : PyData}
theorem f_setN [fx : Fx X.nox sc N k] {t' : TS} (hN : N[0]? = some x) (hp : ∀ s ∈ ρ, s.plain = true) (he : ∀ y, DE X.nox (.obj y C fs :: ρ) e d) (hc : Cls X.K C) (hna : NoAttr X.K C f) (hz : fs.length < 900) (hr : PSs X sts t') (hv : visB sc x = true := by decide +kernel) (hs : swapsWith e (some (.Attribute (.Name x p1) f p2)) pos.line X.env = pure false := by rfl) :
    PSs X (.Assign [.Attribute (.Name x p1) f p2] e pos :: sts) (fun D σ H => ∃ y dx vs F, InSt ρ C fs y dx vs F σ H ∧ ∀ vs' F' H', InSt ρ C ((f, d) :: fs) y dx vs' F' σ H' → Ext y F H F' H' → t' D σ H') := by
  obtain ⟨h1, h2, h3⟩ := vis_of (X := X.nox) fx.hsc hv
  have key : ∀ y, PSs X (.Assign [.Attribute (.Name x p1) f p2] e pos :: sts) (tSeq (sFld X.K (tVar 0) (tE (.obj y C fs :: ρ) (fun z => z = d)) f) t') := fun y => pss_cons (ps_nox (ps_fld (pe_var (i := 0) (by rw [fx.hN]; exact hN) h1 h2 h3) (he y) hs)) hr
  refine ⟨fun pins s σ H D I ⟨y, dx, vs, F, st, q⟩ => (key y).run pins s σ H D I ?_⟩
  refine ⟨F, H, F, Gw.refl st.fh, st.rep, fun v d' F1 H1 pd g1 s1 r1 i1 => ⟨_, st.slf, y, C, dx, vs, rfl, g1.hh _ _ st.ins, hc, hna, by have := st.few; omega, ?_⟩⟩
  subst pd
  have f1y : F1 y = none := g1.stays st.fx st.ins
  have hfl : ∀ f' d', ((f, d') :: fs : List (Str × PyData)).lookup f' = some d' → True := fun _ _ _ => trivial
  have flds : ∀ f' z, (((f, d') :: fs : List (Str × PyData))).lookup f' = some z → FldOk F1 (putF f v vs) f' z := fun f' z hz => by
    rw [List.lookup_cons] at hz
    by_cases e : f' = f
    · subst e
      rw [beq_self_eq_true] at hz
      cases hz
      exact FldOk.of (by rw [lookup_putF, if_pos rfl]) i1
    · rw [show (f' == f) = false by simpa using e] at hz
      have := (st.flds f' z hz).mono s1
      cases z with
      | dict _ => show (putF f v vs).lookup f' = none; rw [lookup_putF, if_neg e]; exact this
      | none => obtain ⟨w, a, b⟩ := this; exact ⟨w, by rw [lookup_putF, if_neg e]; exact a, b⟩
      | bool _ => obtain ⟨w, a, b⟩ := this; exact ⟨w, by rw [lookup_putF, if_neg e]; exact a, b⟩
      | int _ => obtain ⟨w, a, b⟩ := this; exact ⟨w, by rw [lookup_putF, if_neg e]; exact a, b⟩
      | str _ => obtain ⟨w, a, b⟩ := this; exact ⟨w, by rw [lookup_putF, if_neg e]; exact a, b⟩
      | list _ => obtain ⟨w, a, b⟩ := this; exact ⟨w, by rw [lookup_putF, if_neg e]; exact a, b⟩
      | tuple _ => obtain ⟨w, a, b⟩ := this; exact ⟨w, by rw [lookup_putF, if_neg e]; exact a, b⟩
  have sF : Same F1 (upd H1 y (.ins C dx (putF f v vs))) := fun b u e => by rw [upd_ne (fun z => by rw [z, f1y] at e; cases e)]; exact g1.fh _ _ e
  exact q (putF f v vs) F1 _ ⟨sF, f1y, st.slf, upd_same, by have := length_putF f v vs; have := st.few; rw [List.length_cons]; omega, flds, st.rep.withObj hp s1 upd_same flds⟩ ⟨s1, fun b o e hb => by rw [upd_ne hb]; exact g1.hh _ _ e, g1.nw⟩
end
structure MkX where
  n : Nat
  cs : List (List Int)
  div : List Int
  ss : List Stp
  cube : List Int
def spMX (CM CN : Addr) : Sp := fun vs H _ E => ∃ (c : MkX) (y dx : Addr) (us : List V) (F : Hp), vs = .ref y :: us ∧ Fm c.n c.cs ∧ rising c.cs c.div = false ∧ Same F H ∧ F y = none ∧ H y = some (.ins CM dx []) ∧ ArOk H F H us ([fD c.n c.cs, cD c.div, .tuple (c.ss.map sD), cD c.cube].map .dat) ∧
  ∀ F' H', Same F F' → Same F' H' → (∀ b o, H b = some o → b ≠ y → H' b = some o) → (∀ b o, F' b = some o → F b = some o ∨ H b = none) → E (.ref CN) none H'
section
variable {X : Cx} {k : Nat} {CM CN : Addr}
theorem b_mx (KM : MkCls X.K CM) [fx : Fx X.nox (defScope sM_RisingMaker_init) nM_RisingMaker_init k] [fl : Fl X.nox] (hk : 5 ≤ k) (h1 : HsX X "rising_interpolant" 5 (pInterpX CN)) (vs : List V) (H : Hp) (Q : VK) (E : XK) (tk : Tk X E) (h : spMX CM CN vs H Q E) : ∃ t, PSs X (defBody sM_RisingMaker_init) t ∧ t { nx := fun _ H' => Q .non H', rt := Q } (L2.start nM_RisingMaker_init vs) H := by
  obtain ⟨c, y, dx, us, F, rfl, hf, hr, a1, a2, a3, a4, q⟩ := h
  obtain ⟨v1, v2, v3⟩ := vis_of (X := X.nox) (x := "self") fx.hsc (by decide +kernel)
  have ev := fun p => pe_var (X := X) (pos := p) (i := 0) (x := "self") (by have := fx.hN; rw [show X.N = X.nox.N from rfl, this]; rfl) v1 v2 v3
  have hp : ∀ s ∈ ([fD c.n c.cs, cD c.div, .tuple (c.ss.map sD), cD c.cube].map Sl.dat), s.plain = true := fun s hs => by
    obtain ⟨y, _, rfl⟩ := List.mem_map.mp hs; rfl
  let ρ : List Sl := [fD c.n c.cs, cD c.div, .tuple (c.ss.map sD), cD c.cube].map .dat
  let f0 : List (Str × PyData) := [("place", .dict []), ("worked_out", .dict [])]
  let f1 := (("formula" : Str), fD c.n c.cs) :: f0
  let f2 := (("steps" : Str), PyData.tuple (c.ss.map sD)) :: f1
  let f3 := (("cube" : Str), cD c.cube) :: f2
  obtain ⟨xf, xfd, xps, x1, x2, x3, x4⟩ := h1.ex
  obtain ⟨g1, g2⟩ := gl_of (x := "rising_interpolant") fx.hsc (by decide +kernel)
  refine ⟨_, f_setN (ρ := ρ) (C := CM) (fs := f0) rfl hp (fun y => e_v 1 rfl rfl) KM.cls KM.n1 (Nat.le_of_ble_eq_true rfl)
    (f_setN (fs := f1) rfl hp (fun y => e_v 3 rfl rfl) KM.cls KM.n2 (Nat.le_of_ble_eq_true rfl)
    (f_setN (fs := f2) rfl hp (fun y => e_v 4 rfl rfl) KM.cls KM.n3 (Nat.le_of_ble_eq_true rfl)
    (pss_cons (ps_fld (ev _) (pe_call x4 (fx.room.mono hk) g1 x1 x2 x3 (.nil : Vals [] []) (passes_call tk fun _ _ _ _ z => z) (pa_nox (DA.fr (ρ := .obj y CM f3 :: ρ) (ds := [fD c.n c.cs, cD c.div, .tuple (c.ss.map sD)]) (a_d (e_v 1 rfl rfl) (a_d (e_v 2 rfl rfl) (a_d (e_v 3 rfl rfl) a_nil))))) g2 rfl rfl) rfl) pss_not))), ?_⟩
  have st0 : InSt ρ CM f0 y dx [] F (L2.start nM_RisingMaker_init (.ref y :: us)) H := inst_start (T := Unit) (ar := fun _ => [fD c.n c.cs, cD c.div, .tuple (c.ss.map sD), cD c.cube]) (t := ()) (N := nM_RisingMaker_init) a1 a2 a3 a4 fun f d e => by
    by_cases hg : f = "place"
    · subst hg; rw [dk1] at e; exact ⟨[], (Option.some.inj e).symm⟩
    · by_cases hg2 : f = "worked_out"
      · subst hg2; rw [dk2 (by decide +kernel), dk1] at e; exact ⟨[], (Option.some.inj e).symm⟩
      · rw [dk2 (by simpa using hg), dk2 (by simpa using hg2)] at e; cases e
  refine ⟨y, dx, [], F, st0, fun vs1 F1 H1 st1 x1 => ⟨y, dx, vs1, F1, st1, fun vs2 F2 H2 st2 x2 => ⟨y, dx, vs2, F2, st2, fun vs3 F3 H3 st3 x3 => ?_⟩⟩⟩
  have X3 := (x1.trans x2 ⟨_, st1.ins⟩).trans x3 ⟨_, st2.ins⟩
  refine ⟨F3, st3.fh, st3.rep, fun us4 F4 H4 g4 i4 => ?_⟩
  show pInterpX CN (us4 ++ []) H4 _ _
  rw [List.append_nil]
  refine ⟨(c.n, c.cs, c.div, c.ss), F3, H3, F4, ⟨hf, hr⟩, g4, arOk_dats i4, fun F5 H5 g5 s5 => ?_⟩
  refine q F5 H5 (X3.ff.trans g5.ff) g5.fh (fun b o e hb => g5.hh _ _ (X3.hh _ _ e hb)) (fun b o e => ?_)
  rcases g5.nw b o e with h | h
  · exact X3.nw b o h
  · refine .inr ?_
    by_cases hb : b = y
    · rw [hb, st3.ins] at h; cases h
    · exact keep_none X3.hh hb h
end
end Rb
/-! rising_half: not rising -/
namespace Rb
open PySem PySem.Spec L2
structure MksX (P : Program) (w : World) (K : PySem.W.Frag) (mg : Str → Option Value) (base : Heap) (k : Nat) (x : Str) (C : Addr) (sp : Sp) : Prop where
  ex : ∃ (f : Addr) (fd : FuncData) (ps : List Str), Mk K C f ∧ FnOk P w K mg base (L2.CX P w) k f fd ps sp ∧ mg x = some (.ref C) ∧ Binds K fd ps []
abbrev KsX (X : Cx) (k : Nat) (x : Str) (C : Addr) (sp : Sp) : Prop := MksX X.prog X.w X.K X.mg X.base k x C sp
theorem MksX.at {P : Program} {w : World} {K : PySem.W.Frag} {mg : Str → Option Value} {base : Heap} {X : Cx} {C : Addr} {x : Str} {k : Nat} {sp : Sp} (h : MksX P w K mg base k x C sp) (c : Ctx P w K mg base X) : KsX X k x C sp := by
  obtain ⟨rfl, rfl, rfl, rfl, rfl⟩ := c
  exact h
theorem mksX_of {P : Program} {w : World} {K : PySem.W.Frag} {mg : Str → Option Value} {base : Heap} {x : Str} {C : Addr} {qual : Str} {st : Stmt} {N ps : List Str} {k : Nat} {sp : Sp} (hf : AtI K mg x C qual st) (S : FnScope N ps (defScope st)) (hbn : ∀ x ∈ BN, mg x = none)
    (hb : ∀ (kV doc pm : Value) (an : Option Addr) (cdv ct : Value) (us : List Value), us.length = ps.length → bindArgs (PySem.W.fnOf "__init__" qual (defArgs st) (defBody st) (defScope st) .none kV doc pm an cdv ct) ⟨us, []⟩ = pure (ps.zip us)) (len : ∀ vs H Q E, sp vs H Q E → vs.length = ps.length)
    (body : ∀ X : Cx, Ctx P w K mg base X → Fx X.nox (defScope st) N k → Fl X.nox → ∀ vs H Q E, Tk X E → sp vs H Q E → ∃ t, PSs X (defBody st) t ∧ t { nx := fun _ H' => Q .non H', rt := Q } (L2.start N vs) H) : MksX P w K mg base (k + 1) x C sp := by
  obtain ⟨f, fd, hm, hg, F⟩ := hf.ex
  refine ⟨f, fd, ps, hm, F.okX S len (fun cdv A outer s H vs Q E hr h => ?_), hg, F.binds hb⟩
  have fx : Fx (cxOf (L2.CX P w) P w K mg base N qual (defScope st) f cdv A outer s H E).nox (defScope st) N k := ⟨rfl, S.nd, rfl, S.kind, rfl, hr, hbn, rfl⟩
  have fl : Fl (cxOf (L2.CX P w) P w K mg base N qual (defScope st) f cdv A outer s H E).nox := ⟨fun _ => rfl⟩
  exact body _ ⟨rfl, rfl, rfl, rfl, rfl⟩ fx fl vs H Q E (takes_of rfl rfl rfl rfl) h
abbrev pHalfX (CN : Addr) : Sp := spX (T := MkX) CN (fun c => [fD c.n c.cs, cD c.div, .tuple (c.ss.map sD), cD c.cube]) (fun c => Fm c.n c.cs ∧ rising c.cs c.div = false)
section
variable {X : Cx} {k : Nat} {CM CN : Addr} {E : XK}
theorem d_halfX (c : MkX) (hf : Fm c.n c.cs) (hr : rising c.cs c.div = false) [fx : Fx X.nox (defScope sP_rising_half) nP_rising_half k] [fl : Fl X.nox] (tk : Tk X E) (hk : 7 ≤ k) (h1 : KsX X 6 "RisingMaker" CM (spMX CM CN)) :
    PSs X (defBody sP_rising_half) (tX ([fD c.n c.cs, cD c.div, .tuple (c.ss.map sD), cD c.cube].map .dat ++ [.any, .any]) CN E) := by
  obtain ⟨mf, mfd, mps, mm, mF, mg, mb⟩ := h1.ex
  let ds : List PyData := [fD c.n c.cs, cD c.div, .tuple (c.ss.map sD), cD c.cube]
  let ρ : List Sl := ds.map .dat ++ [.any, .any]
  refine PSs.weak (pss_cons (ps_set (i := 4) (by have := fx.hN; rw [show X.N = X.nox.N from rfl, this]; exact fx.nd) (by have := fx.hN; rw [show X.N = X.nox.N from rfl, this]; rfl) (loc_of (X := X.nox) fx.hsc (by decide +kernel)) (pe_make mm mF (fx.room.mono (by omega)) (gl_of (X := X.nox) fx.hsc (by decide +kernel)).1 mg mb (.nil : Vals [] []) (passes_call tk fun _ _ _ _ z => z)
      (pa_nox (DA.fr (ρ := ρ) (ds := ds) (a_d (e_v 0 rfl rfl) (a_d (e_v 1 rfl rfl) (a_d (e_v 2 rfl rfl) (a_d (e_v 3 rfl rfl) a_nil))))))) rfl (.inl (fl.fn _))) pss_not) fun D σ H ⟨F0, H0, F, g, r, q⟩ => ?_
  have hp : ∀ s ∈ ρ, s.plain = true := fun s hs => by
    rcases List.mem_append.mp hs with hs | hs
    · obtain ⟨y, _, rfl⟩ := List.mem_map.mp hs; rfl
    · simp at hs; rw [hs]; rfl
  refine ⟨F, g.fh, r.plains hp (Same.refl _), fun us F1 H1 g1 i1 y dy hy hdy hne => ?_⟩
  have y0 : H0 y = none := g.hh.free (g1.hh.free hy)
  have g01 : Gw F0 H0 F1 H1 := g.trans g1
  have sH : Same H1 (upd (upd H1 dy (.own y)) y (.ins CM dy [])) := fun b o e => by
    rw [upd_ne (ne_of_none e hy), upd_ne (ne_of_none e hdy)]; exact e
  refine ⟨c, y, dy, us, F1, by rw [List.append_nil], hf, hr, g1.fh.trans sH, g1.fh.free hy, upd_same, arOk_dats i1, fun F2 H2 s2 fh2 keep2 nw2 => ?_⟩
  refine q F2 H2 ⟨fun b o e => keep2 _ _ (sH _ _ (g01.hh _ _ e)) (ne_of_none e y0), g01.ff.trans s2, fh2, fun b o e => ?_⟩ (g1.ff.trans s2)
  rcases nw2 b o e with h | h
  · exact g01.nw b o h
  · exact .inr (g01.hh.free (sH.free h))
end
end Rb
/-! _law_is_refused -/
namespace Rb
open PySem PySem.Spec L2
section
variable {X : Cx} {ρ : List Sl} {sc : Scope} {N : List Str} {k : Nat} {a : Expr} {rest : List Expr} {sts : List Stmt} {pos p p1 p2 : Pos} {x : Str} {C : Addr}
/-- it raises, wished at the slots -/
def tXW (ρ : List Sl) (C : Addr) (W : WX) : TS := fun _ σ H => ∃ F0 H0 F, Gw F0 H0 F H ∧ Rep H0 ρ σ F H ∧ ∀ F' H', Gw F0 H0 F' H' → Same F F' → W (.ref C) none σ H'
theorem Fx.tr (fx : Fx X sc N k) (pn : List (Addr × Obj)) (xe : Value → Shared → Prop) : Fx (X.tr pn xe).nox sc N k := ⟨fx.hN, fx.nd, fx.hsc, fx.kind, fx.calm, fx.room, fx.bn, rfl⟩
theorem Fl.tr (fl : Fl X) (pn : List (Addr × Obj)) (xe : Value → Shared → Prop) : Fl (X.tr pn xe).nox := ⟨fl.fn⟩
theorem x_callW {Y : Cx} [fx : Fx Y.nox sc N k] {W : WX} {T : Type} {ar : T → List PyData} {pre : T → Prop} {j : Nat} (tk : Takes Y W) (h : HsX Y x j (spX C ar pre)) (t : T) (ha : DA Y.nox ρ (a :: rest) (fun as => as = (ar t).map .dat)) (hp : pre t) (hj : j ≤ k)
    (hg : glB sc x = true := by decide +kernel) (he : starEach (a :: rest) Y.env = (false, eval a Y.env) :: starEach rest Y.env := by rfl) (hpl : (backTo pos (starEach rest Y.env)).any (·.1) = false := by rfl) (hs : swapsWith (.Call (.Name x p) (a :: rest) [] pos) none p2.line Y.env = pure false := by rfl) :
    PSs Y (.Expr (.Call (.Name x p) (a :: rest) [] pos) p2 :: sts) (tXW ρ C W) := by
  obtain ⟨f, fd, ps, h1, h2, h3, h4⟩ := h.ex
  obtain ⟨g1, g2⟩ := gl_of (X := Y.nox) fx.hsc hg
  refine PSs.weak (pss_cons (ps_expr (pe_callS h4 (fx.room.mono hj) g1 h1 h2 h3 (fun σ => passAt tk σ) (pa_nox ha) g2 he hpl) hs) pss_not) fun D σ H ⟨F0, H0, F, g, r, q⟩ => ⟨F0, H0, F, g, r, fun vs as F1 H1 p1 g1 s1 r1 i1 => ?_⟩
  subst p1
  exact ⟨t, F0, H0, F1, hp, g1, i1, fun F' H' g' s' => q F' H' g' (s1.trans s')⟩
end
structure NotRisingX (K : PySem.W.Frag) (mg : Str → Option Value) (CN : Addr) : Prop where
  ok : NotRisingOk K mg CN
  ex : PySem.W.exmOne K (.ref CN) (.ref CN) = some true
section
variable {X : Cx} {k : Nat} {CN : Addr}
theorem d_Lrefused (n : Nat) (cs : List (List Int)) (div : List Int) (ss : List Stp) (way : Int) (hf : Fm n cs) (hr : rising cs div = false) (T : NotRisingX X.K X.mg CN) [fx : Fx X (defScope sL_is_refused) nL_is_refused k] [fl : Fl X] (hst : X.stack = X.env :: X.outer) (hfr : X.env.frame = some X.env.locals) (hk : 8 ≤ k)
    (h1 : HsX X "rising_interpolant" 5 (pInterpX CN)) (h2 : HsX X "rising_half" 8 (pHalfX CN)) (h3 : Hs X "_law_signs" 2 pLsigns) (h4 : Hs X "_law_common" 2 pCommon) (hcl : (common cs div).length ≤ 10) :
    DS X [.dat (fD n cs), .dat (cD div), .dat (.tuple (ss.map sD)), .dat (.int way)] (defBody sL_is_refused) (EndK ([fD n cs, cD div, .tuple (ss.map sD), .int way].map .dat) (fun d => d = .bool true)) := by
  let ρ : List Sl := [.dat (fD n cs), .dat (cD div), .dat (.tuple (ss.map sD)), .dat (.int way)]
  obtain ⟨c0, hc0⟩ : ∃ c0, (signs (common cs div))[0]? = some c0 := by
    have := signs_len (common cs div)
    have h2 := Nat.two_pow_pos (common cs div).length
    exact ⟨_, List.getElem?_eq_getElem (by omega)⟩
  refine PSs.weak (pss_cons (ps_try_only (tb := fun W => tXW ρ CN W) (ts := fun _ _ _ => tRet (tC (.bl true))) (Wout := fun _ _ _ _ => False) hst hfr ⟨(gl_of fx.hsc (by decide +kernel)).1, (gl_of fx.hsc (by decide +kernel)).2, .inl T.ok.gC⟩ takes0
    (fun W pn xe tk _ => ?body) (fun a oe cls d pn _ _ => pss_one (ps_ret pe_bl))) pss_not) fun D σ H ⟨F0, H0, F, g, r, q⟩ => ⟨F0, H0, F, g, r, fun F' H' g' s' => ⟨true, T.ex, fun _ a ha => ?_, fun h => by cases h⟩⟩
  case body =>
    have fxt := fx.tr pn xe
    have flt := fl.tr pn xe
    have h3' : Hs (X.tr pn xe).nox "_law_signs" 2 pLsigns := h3
    have h4' : Hs (X.tr pn xe).nox "_law_common" 2 pCommon := h4
    by_cases hw : way = 0
    · refine PSs.weak (pss_cons (ps_if (PT.nox (t_T (t_eq (e_v 3 rfl rfl) e_int) (decide_eq_true hw))) (x_callW (N := nL_is_refused) (ρ := ρ) tk h1 (n, cs, div, ss) (a_d (e_v 0 rfl rfl) (a_d (e_v 1 rfl rfl) (a_d (e_v 2 rfl rfl) a_nil))) ⟨hf, hr⟩ (by omega)) pss_not) pss_nil) fun D σ H ⟨F0, H0, F, g, r, q⟩ => ⟨F0, H0, F, g, r, fun y F1 H1 p1 g1 s1 r1 => ?_⟩
      subst p1
      exact iteT ⟨F0, H0, F1, g1, r1, fun F' H' g' s' => q F' H' g' (s1.trans s')⟩
    · refine PSs.weak (pss_cons (ps_if (PT.nox (t_F (t_eq (e_v 3 rfl rfl) e_int) (decide_eq_false hw))) pss_not (x_callW (N := nL_is_refused) (ρ := ρ) tk h2 ⟨n, cs, div, ss, c0⟩ (a_d (e_v 0 rfl rfl) (a_d (e_v 1 rfl rfl) (a_d (e_v 2 rfl rfl) (a_d (e_ixL (d := cD c0) (e_call h3' (common cs div) (a_d (e_call h4' (n, cs, div) (a_d (e_v 0 rfl rfl) (a_d (e_v 1 rfl rfl) a_nil)) hf (by omega)) a_nil) hcl (by omega)) e_int (by rw [atI_map]; exact congrArg (Option.map cD) (atI_nn (j := 0) hc0))) a_nil)))) ⟨hf, hr⟩ (by omega))) pss_nil) fun D σ H ⟨F0, H0, F, g, r, q⟩ => ⟨F0, H0, F, g, r, fun y F1 H1 p1 g1 s1 r1 => ?_⟩
      subst p1
      exact iteF ⟨F0, H0, F1, g1, r1, fun F' H' g' s' => q F' H' g' (s1.trans s')⟩
  have hp : ∀ s ∈ ρ, s.plain = true := fun s hs => by
    simp only [ρ, List.mem_cons, List.not_mem_nil, or_false] at hs
    rcases hs with rfl | rfl | rfl | rfl <;> rfl
  exact q (.rt (.bool true) ρ) (end_d (ds := [fD n cs, cD div, .tuple (ss.map sD), .int way]) rfl) _ σ F' H' g' s' (r.plains hp s') is_bl
end
end Rb
/-! the law's plain facts: same, widths, the last value -/
namespace Rb
open PySem PySem.Spec L2
theorem sameOk_up : ∀ (m : Nat) (d : PyData), SameOk m d → SameOk (m + 1) d
  | 0, d, h => .inl h
  | m + 1, d, h => by
    rcases h with h | ⟨xs, e, hl, hx⟩
    · exact .inl h
    · exact .inr ⟨xs, e, hl, fun x hx' => sameOk_up m x (hx x hx')⟩
theorem same_cD {c : List Int} (h : c.length ≤ 100000) : SameOk 1 (cD c) := .inr ⟨_, rfl, by rw [List.length_map]; exact h, fun x hx => by
  obtain ⟨i, _, rfl⟩ := List.mem_map.mp hx
  trivial⟩
theorem same_fD {n : Nat} {cs : List (List Int)} (h : cs.length ≤ 100000) (hc : ∀ c ∈ cs, c.length ≤ 100000) : SameOk 3 (fD n cs) := .inr ⟨_, rfl, Nat.le_of_ble_eq_true rfl, fun x hx => by
  simp only [List.mem_cons, List.not_mem_nil, or_false] at hx
  rcases hx with rfl | rfl
  · exact .inl trivial
  · exact .inr ⟨_, rfl, by rw [List.length_map]; exact h, fun y hy => by
      obtain ⟨c, hc', rfl⟩ := List.mem_map.mp hy
      exact same_cD (hc c hc')⟩⟩
theorem same_gD (g : Gt) : SameOk 1 (gD g) := by
  cases g <;> refine .inr ⟨_, rfl, Nat.le_of_ble_eq_true rfl, fun x hx => ?_⟩ <;> simp only [List.mem_cons, List.not_mem_nil, or_false] at hx
  · subst hx; trivial
  · subst hx; trivial
  · rcases hx with rfl | rfl <;> trivial
  · rcases hx with rfl | rfl | rfl | rfl <;> trivial
  · rcases hx with rfl | rfl | rfl | rfl <;> trivial
  · rcases hx with rfl | rfl | rfl <;> trivial
  · rcases hx with rfl | rfl | rfl <;> trivial
theorem same_gs {gs : List Gt} (h : gs.length ≤ 100000) : SameOk 4 (.tuple (gs.map gD)) := sameOk_up 3 _ (sameOk_up 2 _ (.inr ⟨_, rfl, by rw [List.length_map]; exact h, fun x hx => by
  obtain ⟨g, _, rfl⟩ := List.mem_map.mp hx
  exact same_gD g⟩))
theorem same_int {m : Nat} {i : Int} : SameOk m (.int i) := by cases m with | zero => trivial | succ m => exact .inl trivial
theorem same_bool {m : Nat} {i : Bool} : SameOk m (.bool i) := by cases m with | zero => trivial | succ m => exact .inl trivial
theorem Fm.small {n : Nat} {cs : List (List Int)} (h : Fm n cs) : ∀ c ∈ cs, c.length ≤ 100000 := fun c hc => by
  have := (h.2.2 c hc).len
  have := h.1
  omega
theorem same_fall {n : Nat} {cs : List (List Int)} {a b : List Int} (h : Fm n cs) (ha : a.length ≤ 100000) (hb : b.length ≤ 100000) : SameOk 4 (.tuple [cD a, fD n cs, cD b]) := .inr ⟨_, rfl, Nat.le_of_ble_eq_true rfl, fun x hx => by
  simp only [List.mem_cons, List.not_mem_nil, or_false] at hx
  rcases hx with rfl | rfl | rfl
  · exact sameOk_up 2 _ (sameOk_up 1 _ (same_cD ha))
  · exact same_fD (by have := h.2.1; omega) h.small
  · exact sameOk_up 2 _ (sameOk_up 1 _ (same_cD hb))⟩
theorem nodup_sub : ∀ (x y : List Int), x.Nodup → (∀ l ∈ x, l ∈ y) → x.length ≤ y.length
  | [], _, _, _ => Nat.zero_le _
  | a :: t, y, nd, h => by
    have ha : a ∈ y := h a List.mem_cons_self
    have nd' := List.nodup_cons.mp nd
    have := nodup_sub t (y.erase a) nd'.2 fun l hl => (List.mem_erase_of_ne (fun e => nd'.1 (by rw [← e]; exact hl))).mpr (h l (List.mem_cons_of_mem _ hl))
    rw [List.length_erase_of_mem ha] at this
    have := List.length_pos_of_mem ha
    rw [List.length_cons]
    omega
theorem kept_len {c : Mc} {j : Nat} {x : List Int} (h : Kept c j x) : x.length ≤ widthN c.cls := by
  have h1 : x.length ≤ (c.C j).length := nodup_sub _ _ (h.1.1.imp fun hab => by omega) fun l hl => (h.2 l hl).1
  have h2 : (c.C j).length ≤ widthN c.cls := by
    unfold Mc.C
    by_cases hj : j < c.cls.length
    · rw [getD_get hj]
      exact maxN_le _ (List.mem_map_of_mem (List.getElem_mem _))
    · rw [List.getD_eq_getElem?_getD, List.getElem?_eq_none (by omega)]
      exact Nat.zero_le _
  omega
theorem kept_width {c : Mc} {mcls : List (List Int)} (hm : mcls ≠ []) (h : ∀ x ∈ mcls, ∃ j, Kept c j x) : widthN mcls ≤ widthN c.cls := by
  have := maxN_mem (xs := mcls.map List.length) (by simpa using hm)
  obtain ⟨x, hx, e⟩ := List.mem_map.mp this
  obtain ⟨j, hj⟩ := h x hx
  have := kept_len hj
  unfold widthN at *
  omega
theorem Mc.Good.lastv {c : Mc} (g : c.Good) : (gvals c.cube (gatesOf c.cs c.div c.ss)).getLast? = some c.val := by
  have hp := g.pos
  have hl : (gvals c.cube (gatesOf c.cs c.div c.ss)).length = c.ss.length := gv_len c
  have e : (gvals c.cube (gatesOf c.cs c.div c.ss)).getLast? = c.gv.getLast? := rfl
  unfold Mc.val
  rw [e]
  cases h : c.gv.getLast? with
  | some b => rfl
  | none =>
    rw [List.getLast?_eq_none_iff] at h
    have hl2 : c.gv.length = c.ss.length := gv_len c
    rw [h] at hl2
    simp at hl2
    omega
theorem grow_last {cs : List (List Int)} {div : List Int} {ss : List Stp} {cube : List Int} {v : Int} (hv : 0 < v) (h : (gvals cube (gatesOf cs div ss)).getLast? = some true) : (gvals (withC (cube.filter fun l => !decide (l = -v)) v) (gatesOf cs div ss)).getLast? = some true := by
  rw [List.getLast?_eq_getElem?, gvals_len] at h ⊢
  have h0 := (List.getElem?_eq_some_iff.mp h).1
  rw [gvals_len] at h0
  have := grow_vals (n := 0) (cs := cs) (div := div) (ss := ss) (cube := cube) (v := v) ((gatesOf cs div ss).length - 1) (by rw [List.getD_eq_getElem?_getD, h]; rfl) hv
  have hlt : (gatesOf cs div ss).length - 1 < (gvals (withC (cube.filter fun l => !decide (l = -v)) v) (gatesOf cs div ss)).length := by rw [gvals_len]; exact h0
  rw [List.getElem?_eq_getElem hlt]
  rw [getD_get hlt] at this
  rw [this]
/-- one less, a list given to with -/
abbrev pWithL : Sp := spP (T := List Int × Int) (fun p => [.list (p.1.map .int), .int p.2]) (fun p => p.1.length ≤ 1000) (fun p => cD (withC p.1 p.2))
section
variable {X : Cx} {k : Nat}
theorem d_withL (c : List Int) (l : Int) (h : c.length ≤ 1000) [Fx X (defScope sL_with) nL_with k] [Fl X] : DS X [.dat (.list (c.map .int)), .dat (.int l)] (defBody sL_with) (EndK ([.list (c.map .int), .int l].map .dat) (fun d => d = cD (withC c l))) :=
  s_ret (e_tupL (e_sortI (ns := c ++ [l]) (DE.to (e_cat (e_listL (e_v 0 rfl rfl)) (e_lst (ds := [.int l]) (a_d (e_v 1 rfl rfl) a_nil)) (by rw [List.length_map, sizeLine_eq]; simp; omega)) (by rw [List.map_append]; rfl)))) (end_d rfl)
end
end Rb
/-! the pool, from the script as it is given -/
namespace Rb
open PySem PySem.Spec L2
theorem has_raw {P : Program} {w : World} {K : PySem.W.Frag} {mg : Str → Option Value} {base : Heap} {x : Str} {st : Stmt} {N ps : List Str} {k : Nat} {sp : Sp} (hf : At K mg x st) (S : FnScope N ps (defScope st)) (hbn : ∀ x ∈ BN, mg x = none)
    (hb : ∀ (kV doc pm : Value) (an : Option Addr) (cdv ct : Value) (us : List Value), us.length = ps.length → bindArgs (PySem.W.fnOf x x (defArgs st) (defBody st) (defScope st) .none kV doc pm an cdv ct) ⟨us, []⟩ = pure (ps.zip us)) (len : ∀ vs H Q E, sp vs H Q E → vs.length = ps.length)
    (body : ∀ X : Cx, Ctx P w K mg base X → Fx X (defScope st) N k → Fl X → X.stack = X.env :: X.outer → X.env.frame = some X.env.locals → ∀ vs H Q E, sp vs H Q E → ∃ t, PSs X (defBody st) t ∧ t { nx := fun _ H' => Q .non H', rt := Q } (L2.start N vs) H) : Has P w K mg base x (k + 1) sp := by
  obtain ⟨f, fd, hm, F⟩ := hf.ex
  refine ⟨f, fd, ps, hm, F.kp, F.binds hb, F.ok S len (fun cdv A outer s H vs Q E hr h => ?_)⟩
  have fx : Fx (cxOf CX0 P w K mg base N x (defScope st) f cdv A outer s H E).nox (defScope st) N k := ⟨rfl, S.nd, rfl, S.kind, rfl, hr, hbn, rfl⟩
  have fl : Fl (cxOf CX0 P w K mg base N x (defScope st) f cdv A outer s H E).nox := ⟨fun _ => rfl⟩
  exact body _ ⟨rfl, rfl, rfl, rfl, rfl⟩ fx fl rfl rfl vs H Q E h
def spPoolR (K : PySem.W.Frag) : Sp := fun vs H Q _ => ∃ (a : Addr) (ns : List Int), vs = [.ref a] ∧ SqL K H a (ns.map V.int) ∧ ns.length ≤ 63 ∧ ∀ p F' H', Gw (fun _ => none) H F' H' → MutOk H F' H' (.own p PoolOk) → Q (.ref p) H'
theorem same_no {H : Hp} : Same (fun _ => none) H := fun _ _ e => by cases e
theorem gw_no {H H' : Hp} (h : Same H H') : Gw (fun _ => none) H (fun _ => none) H' := ⟨h, Same.refl _, same_no, fun _ _ e => by cases e⟩
section
variable {X : Cx} {k : Nat}
theorem ex_e {α : Type} {t : α → TE} {e : Expr} (h : ∀ y, PE X e (t y)) : PE X e (fun σ H Q => ∃ y, t y σ H Q) := ⟨fun pins s σ H Q I ⟨y, h1⟩ => (h y).run pins s σ H Q I h1⟩
theorem ex_a {α : Type} {t : α → TA} {es : List Expr} (h : ∀ y, PA X es (t y)) : PA X es (fun σ H Q => ∃ y, t y σ H Q) := ⟨fun pos pins s σ H Q I ⟨y, h1⟩ => (h y).run pos pins s σ H Q I h1⟩
theorem cut_take (vs : List V) (n : Nat) : cutV vs none (some (n : Int)) = vs.take n := by
  unfold cutV
  rw [HT.sIx_nat, HT.sIx_none]
  simp only [List.drop_zero, Nat.sub_zero]
  by_cases hnl : n ≤ vs.length
  · rw [Nat.min_eq_left hnl]
  · rw [Nat.min_eq_right (by omega), List.take_of_length_le (Nat.le_refl _), List.take_of_length_le (by omega)]
theorem rep_pool {H F : Hp} {a : Addr} {s1 c : Int} (hs : Same F H) : Rep H [.any, .dat (.int s1), .dat (.int c)] [some (.ref a), some (.int s1), some (.int c)] F H :=
  rep_start (N := nL_pool) (as := [.any, .dat (.int s1), .dat (.int c)]) (vs := [.ref a, .int s1, .int c]) (.cons trivial (.cons ⟨_, rfl, is_int⟩ (.cons ⟨_, rfl, is_int⟩ .nil))) (fun i j s t b hi hj hs ht => by
    match i, hi with
    | 0, hi => cases hi; cases hs
    | 1, hi => cases hi; cases hs
    | 2, hi => cases hi; cases hs
    | _ + 3, hi => cases hi)
theorem b_pool [fx : Fx X (defScope sL_pool) nL_pool k] [fl : Fl X] (vs : List V) (H : Hp) (Q : VK) (E : XK) (h : spPoolR X.K vs H Q E) : ∃ t, PSs X (defBody sL_pool) t ∧ t { nx := fun _ H' => Q .non H', rt := Q } (L2.start nL_pool vs) H := by
  obtain ⟨a, ns, rfl, hS, hz, q⟩ := h
  obtain ⟨v1, v2, v3⟩ := vis_of (X := X) (x := "_law_script") fx.hsc (by decide +kernel)
  have es := fun p => pe_var (X := X) (pos := p) (i := 0) (x := "_law_script") (by rw [fx.hN]; rfl) v1 v2 v3
  have hxe : PassesOwn (model X.prog X.w) X.A X.env X.xe := by rw [fx.xe]; exact PassesOwn.never
  refine ⟨_, pss_cons (ps_set (i := 1) (by rw [fx.hN]; exact fx.nd) (by rw [fx.hN]; rfl) (loc_of fx.hsc (by decide +kernel)) pe_int rfl (.inl (fl.fn _)))
    (pss_cons (ps_for hxe fx.calm (pi_list (pe_slice sl_list (es _) po_none (po_some pe_int))) (pg_name (i := 2) (by rw [fx.hN]; exact fx.nd) (by rw [fx.hN]; rfl) (loc_of fx.hsc (by decide +kernel)) (.inl (fl.fn _)))
      (pss_one (ps_set (i := 1) (by rw [fx.hN]; exact fx.nd) (by rw [fx.hN]; rfl) (loc_of fx.hsc (by decide +kernel)) (ex_e fun y : Int × Int => DE.fr (ρ := [.any, .dat (.int y.1), .dat (.int y.2)]) (e_mod (e_intI (e_add (e_mul (e_v 1 rfl rfl) e_int (.inr ⟨by decide, by decide⟩)) (e_v 2 rfl rfl))) e_int (by decide))) rfl (.inl (fl.fn _)))) (by intro _; rfl))
    (pss_cons (ps_ret (pe_lst (pa_cons (pe_callTy call_list_of (gl_of fx.hsc (by decide +kernel)).1 (fx.bn _ bn_list) (by decide +kernel) (pa_cons (es _) pa_nil) (by decide) (by decide))
      (ex_a fun y : Int => DA.fr (ρ := [.any, .dat (.int y), .any]) (ds := [.int 0, .int 0, .int 0, .int y]) (a_d e_int (a_d e_int (a_d e_int (a_d (e_v 1 rfl rfl) a_nil)))))))) pss_nil)), ?_⟩
  refine ⟨.ref a, rfl, 63, rfl, a, ns.map V.int, rfl, hS, fun p hp => ?_⟩
  rw [show ((63 : Int)) = ((63 : Nat) : Int) from rfl, cut_take]
  refine ⟨p, rfl, ⟨_, SqL.of upd_same⟩, for_list (K := X.K) (a := p) (xs := (ns.map V.int).take 63) (fun i σ H' => Same (upd H p (.lst ((ns.map V.int).take 63))) H' ∧ ∃ (s1 : Int) (x' : Option V), σ = [some (.ref a), some (.int s1), x']) ⟨Same.refl _, 7, none, rfl⟩ (fun i σ H' _ ⟨sm, _⟩ => SqL.of (sm _ _ upd_same)) ?_ ?_⟩
  · rintro i x σ H' hi ⟨sm, s1, x', rfl⟩
    obtain ⟨c, rfl⟩ : ∃ c, x = V.int c := by
      have h1 := List.mem_of_mem_take (List.mem_of_getElem? hi)
      obtain ⟨c, _, rfl⟩ := List.mem_map.mp h1
      exact ⟨c, rfl⟩
    refine ⟨(s1, c), fun _ => none, same_no, rep_pool same_no, fun v F' H2 g i2 => ?_⟩
    rw [i2.int_inv]
    exact ⟨sm.trans g.hh, _, _, rfl⟩
  · rintro σ H' ⟨sm, s1, x', rfl⟩
    have sH : Same H H' := (same_new hp).trans sm
    refine ⟨.ref a, rfl, a, ns.map V.int, rfl, .inl (sH.seq hS), fun l hl => ?_⟩
    have gl := Gw.dat (F := fun _ => none) (o := .lst (ns.map V.int)) (same_no (H := H')) hl
    refine ⟨s1, upd (fun _ => none) l (.lst (ns.map V.int)), gl.fh, (rep_pool (c := 0) gl.fh).forget 2 x', fun vs F2 H2 g2 i2 => ?_⟩
    obtain ⟨j1, j2⟩ := ar_dats i2
    have hlen := dqA_len j1
    refine ⟨by rw [List.length_cons, hlen]; exact Nat.le_of_ble_eq_true rfl, fun p2 hp2 => ?_⟩
    have gN := (((gw_no sH).trans gl).trans g2).trans (Gw.new (o := .lst (.ref l :: vs)) g2.fh hp2)
    refine q p2 F2 _ gN ⟨sH.free (gl.hh.free (g2.hh.free hp2)), g2.fh.free hp2, _, _, upd_same, .cons (.lst (g2.ff _ _ upd_same) (dqA_ints ns)) j1, fun d hd => ?_, by rw [List.length_cons, hlen]; exact Nat.le_of_ble_eq_true rfl, ns, 0, 0, 0, s1, rfl, by omega⟩
    rcases List.mem_cons.mp hd with rfl | hd
    · exact sz_list.mpr ⟨by rw [List.length_map, sizeLine_eq]; omega, fun d hd => by obtain ⟨i, _, rfl⟩ := List.mem_map.mp hd; exact sz_int i⟩
    · exact j2 d hd
end
end Rb
/-! the law's body -/
namespace Rb
open PySem PySem.Spec L2
abbrev pLrefused : Sp := spP (T := Nat × List (List Int) × List Int × List Stp × Int) (fun p => [fD p.1 p.2.1, cD p.2.2.1, .tuple (p.2.2.2.1.map sD), .int p.2.2.2.2]) (fun p => Fm p.1 p.2.1 ∧ rising p.2.1 p.2.2.1 = false) (fun _ => .bool true)
structure LawH (X : Cx) : Prop where
  fal : Hs X "_law_false_formula" 5 pLfalse
  dvs : Hs X "_law_division" 3 pLdivision
  stp : Hs X "_law_some_steps" 9 pLsteps
  sam : Hs X "_law_same" 5 (pSame 4)
  ris : Hs X "is_rising" 3 pRising
  lri : Hs X "_law_is_rising" 3 pRising
  nms : Hs X "_law_names" 3 pLnames
  nmd : Hs X "_law_named" 1 pLnamed
  fll : Hs X "falling_division" 3 pFalling
  rns : Hs X "renamed_steps" 3 pRenSs
  ref : Hs X "_law_is_refused" 9 pLrefused
  itp : Hs X "rising_interpolant" 5 pInterp
  gat : Hs X "_law_gate" 3 pLgate
  wid : Hs X "_law_width" 5 pLwidth
  com : Hs X "_law_common" 2 pCommon
  sig : Hs X "_law_signs" 2 pLsigns
  val : Hs X "_law_values" 1 pValues
  rva : Hs X "rising_value" 2 pValue
  wth : Hs X "_law_with" 1 pWithL
  hlf : Hs X "rising_half" 104 pHalf
  lft : Hs X "_law_left" 1 pLleft
  sid : Hs X "_law_side" 1 pLside
  rfu : Hs X "_law_is_refutation" 5 pLrefut
theorem common_few {n : Nat} {cs : List (List Int)} {div : List Int} (h : Fm n cs) : (common cs div).length ≤ 10 := by
  have := nodup_range (common cs div) (n + 1) common_nodup fun l hl => by have := common_range h l hl; omega
  have := h.1
  omega
def Okay (o : Out) : Prop := ∃ ρ, o = .rt (.bool true) ρ
section
variable {X : Cx} {k : Nat}
theorem d_law2 (A : Addr) (d2 d3 d5 : PyData) (n : Nat) (cs : List (List Int)) (div : List Int) (ss : List Stp) (cls : List (List Int)) (hf : Fm n cs) (hd : Der n cs ss cls) (hl : cls.getLast? = some []) (hz : ss.length ≤ 48)
    [fx : Fx X (defScope sP_law) nP_law k] [fl : Fl X] (hk : 104 ≤ k) (L : LawH X) :
    DS X [.any, .own A PoolOk, .dat d2, .dat d3, .dat (.tuple (ss.map sD)), .dat d5, .dat (fD n cs), .any, .dat (cD div), .any, .any, .any, .any, .any, .any, .any, .any, .any, .any, .any, .any] ((defBody sP_law).drop 10) Okay := by
  have n4 := hf.1
  have hne : cls ≠ [] := fun e => by rw [e] at hl; cases hl
  by_cases hr : rising cs div = true
  · refine s_ifF0 (t_F (t_not (t_val (e_call L.lri (n, cs, div) (a_d (e_v 6 rfl rfl) (a_d (e_v 8 rfl rfl) a_nil)) hf (by omega)))) (by rw [hr]; rfl)) ?_
    refine s_asg 10 rfl (e_call L.itp (n, cs, div, ss) (a_d (e_v 6 rfl rfl) (a_d (e_v 8 rfl rfl) (a_d (e_v 4 rfl rfl) a_nil))) ⟨hf, hr⟩ (by omega)) ?_
    have hgl : (gatesOf cs div ss).length = ss.length := by unfold gatesOf; rw [List.length_map]
    refine s_ifF0 (t_F (t_not (t_val (e_call L.sam (.tuple ((gatesOf cs div ss).map gD)) (a_d (e_v 10 rfl rfl) (a_d (e_tupL (DE.to (e_lc0 (enc := sD) (xs := ss) (g := fun s => gD (needG (gateOf cs div s))) 11 (i_T (e_v 4 rfl rfl)) rfl
      (fun s H C cl fp y fx' hy => e_cb L.gat (n, cs, div, y) (a_d (e_v 6 rfl rfl) (a_d (e_v 8 rfl rfl) (a_d (e_v 11 rfl rfl) (a_d e_str a_nil)))) hf (by omega))) (by unfold gatesOf; rw [List.map_map]; rfl))) a_nil)) (same_gs (by omega)) (by omega)))) rfl) ?_
    refine s_asg 12 rfl (e_call L.wid (n, cs, ss, cls) (a_d (e_v 6 rfl rfl) (a_d (e_v 4 rfl rfl) a_nil)) ⟨by show n ≤ 100; omega, by show ss.length ≤ 1000; omega, hd, hne⟩ (by omega)) ?_
    refine s_asg 13 rfl (e_call L.com (n, cs, div) (a_d (e_v 6 rfl rfl) (a_d (e_v 8 rfl rfl) a_nil)) hf (by omega)) ?_
    refine s_forN 14 rfl (i_L (e_call L.sig (common cs div) (a_d (e_v 13 rfl rfl) a_nil) (common_few hf) (by omega))) (fun ds m ρ' => ∃ s14 s15 s16 s17 s19 s20, ρ' = [.any, .own A PoolOk, .dat d2, .dat d3, .dat (.tuple (ss.map sD)), .dat d5, .dat (fD n cs), .any, .dat (cD div), .any, .dat (.tuple ((gatesOf cs div ss).map gD)), .any, .dat (.int (widthN cls : Nat)), .dat (.list ((common cs div).map .int)), s14, s15, s16, s17, .any, s19, s20]) (fun ds _ => ⟨_, _, _, _, _, _, rfl⟩) ?_ ?_
    · rintro ds m d ρ' rfl hm ⟨s14, s15, s16, s17, s19, s20, rfl⟩
      rw [List.getElem?_map] at hm
      cases hcu : (signs (common cs div))[m]? with
      | none => rw [hcu] at hm; cases hm
      | some cube =>
        rw [hcu] at hm
        cases hm
        have good := good_of hf hr hd hl hz (List.mem_of_getElem? hcu)
        have lv := good.lastv
        have gsk : GsOk (gatesOf cs div ss) := good.gsok
        generalize hcv : Mc.val ⟨n, cs, div, ss, cls, cube⟩ = val at lv
        refine s_asg 15 rfl (d := .bool val) (e_ixL (e_call L.val (gatesOf cs div ss, cube) (a_d (e_v 10 rfl rfl) (a_d (e_v 14 rfl rfl) a_nil)) ⟨gsk, by show (gatesOf cs div ss).length ≤ 1000; omega⟩ (by omega)) (e_neg e_int) (atI_m1 (by rw [List.getLast?_map]; exact congrArg (Option.map PyData.bool) lv))) ?_
        refine s_ifF0 (t_F (t_not (t_val (e_call L.sam (.bool val) (a_d (e_call L.rva (gatesOf cs div ss, cube, val) (a_d (e_v 10 rfl rfl) (a_d (e_v 14 rfl rfl) a_nil)) ⟨gsk, by show (gatesOf cs div ss).length ≤ 1000; omega, lv⟩ (by omega)) (a_d (e_v 15 rfl rfl) a_nil)) same_bool (by omega)))) rfl) ?_
        have hcl : cube.length ≤ 1000 := by have := good.cub.len; simp only at this; omega
        refine s_forN 16 rfl (i_L (e_v 13 rfl rfl)) (fun ds m ρ' => ∃ s16 s17, ρ' = [.any, .own A PoolOk, .dat d2, .dat d3, .dat (.tuple (ss.map sD)), .dat d5, .dat (fD n cs), .any, .dat (cD div), .any, .dat (.tuple ((gatesOf cs div ss).map gD)), .any, .dat (.int (widthN cls : Nat)), .dat (.list ((common cs div).map .int)), .dat (cD cube), .dat (.bool val), s16, s17, .any, s19, s20]) (fun ds _ => ⟨_, _, rfl⟩) ?_ ?_
        · rintro ds m2 d ρ' rfl hm2 ⟨s16, s17, rfl⟩
          rw [List.getElem?_map] at hm2
          cases hv : (common cs div)[m2]? with
          | none => rw [hv] at hm2; cases hm2
          | some v =>
            rw [hv] at hm2
            cases hm2
            have hv0 := (common_range hf v (List.mem_of_getElem? hv)).1
            have hfl : (cube.filter fun l => !decide (l = -v)).length ≤ 1000 := Nat.le_trans (List.length_filter_le _ _) hcl
            refine s_ifB (t_and (t_val (e_v 15 rfl rfl)) (fun _ => t_inT (e_neg (e_v 16 rfl rfl)) (e_v 14 rfl rfl))) (fun hb => ?_) (fun hb => s_nil (s_nil ⟨_, _, rfl⟩))
            have hval : val = true := by cases val with | true => rfl | false => cases hb
            subst hval
            have lg := grow_last (cube := cube) (v := v) (by omega) lv
            refine s_asg 17 rfl (e_call L.wth (cube.filter fun l => !decide (l = -v), v) (a_d (DE.to (e_lc (enc := .int) (xs := cube) (f := fun l => !decide (l = -v)) (g := PyData.int) 18 (i_T (e_v 14 rfl rfl)) rfl (fun s H C cl fp y fx' hy => ts_1 (t_ne (e_v 18 rfl rfl) (e_neg (e_v 16 rfl rfl)))) (fun s H C cl fp y fx' hy hf => e_v 18 rfl rfl)) rfl) (a_d (e_v 16 rfl rfl) a_nil)) hfl (by omega)) ?_
            exact s_ifF0 (t_F (t_not (t_val (bb := true) (e_ixL (e_call L.val (gatesOf cs div ss, withC (cube.filter fun l => !decide (l = -v)) v) (a_d (e_v 10 rfl rfl) (a_d (e_v 17 rfl rfl) a_nil)) ⟨gsk, by show (gatesOf cs div ss).length ≤ 1000; omega⟩ (by omega)) (e_neg e_int) (atI_m1 (by rw [List.getLast?_map]; exact congrArg (Option.map PyData.bool) lg))))) rfl) (s_nil (s_nil ⟨_, _, rfl⟩))
        · rintro ds ρ' rfl ⟨s16, s17, rfl⟩
          refine s_asgP 19 rfl (e_callK L.hlf ⟨n, cs, div, ss, cls, cube⟩ (a_d (e_v 6 rfl rfl) (a_d (e_v 8 rfl rfl) (a_d (e_v 4 rfl rfl) (a_d (e_v 14 rfl rfl) a_nil)))) good apart_dats (fun s hs e => by
            obtain ⟨y, _, rfl⟩ := List.mem_map.mp hs
            exact absurd rfl e) (by omega)) ?_
          rintro _ ⟨ms, mcls, rfl, m1, m2, m3, m4⟩
          have hside : Mc.side ⟨n, cs, div, ss, cls, cube⟩ = 1 + (if val = true then 1 else 0) := by unfold Mc.side; rw [hcv]; cases val <;> rfl
          have hmz : ms.length ≤ ss.length := m3
          have hmn : mcls ≠ [] := fun e => by rw [e] at m2; cases m2
          have hw := kept_width hmn m4
          have hw' : widthN mcls ≤ widthN cls := hw
          have m1' : Der n (restr (sideC cs div (1 + (if val = true then 1 else 0))) cube) ms mcls := hside ▸ m1
          rw [hside]
          have hsl : (sideC cs div (1 + (if val = true then 1 else 0))).length < 64 := by have := side_len (cs := cs) (div := div) (s := 1 + (if val = true then 1 else 0)); have := hf.2.1; omega
          refine s_ifF0 (t_F (t_w (w_or (t_not (t_val (e_isi (e_v 19 rfl rfl) b_tuple (k_tuple rfl)))) fun _ => w_or (t_ne (e_lenT (e_v 19 rfl rfl)) e_int) fun _ => w_1o (t_not (t_val (e_call L.sam (.int (1 + (if val = true then 1 else 0))) (a_d (e_ixT (e_v 19 rfl rfl) e_int rfl) (a_d (e_add e_int (e_intB (e_v 15 rfl rfl))) a_nil)) same_int (by omega)))))) rfl) ?_
          refine s_asg 20 rfl (e_call L.lft (n, sideC cs div (1 + (if val = true then 1 else 0)), cube) (a_d (e_call L.sid (n, cs, div, 1 + (if val = true then 1 else 0)) (a_d (e_v 6 rfl rfl) (a_d (e_v 8 rfl rfl) (a_d (e_ixT (e_v 19 rfl rfl) e_int rfl) a_nil))) hf.z (by omega)) (a_d (e_v 14 rfl rfl) a_nil)) hsl (by omega)) ?_
          exact s_ifF0 (t_F (t_w (w_or (t_not (t_val (e_call L.rfu (n, restr (sideC cs div (1 + (if val = true then 1 else 0))) cube, ms, mcls) (a_d (e_v 20 rfl rfl) (a_d (e_ixT (e_v 19 rfl rfl) e_int rfl) a_nil)) ⟨by show n ≤ 100; omega, by show ms.length ≤ 1000; omega, m1', m2⟩ (by omega)))) fun _ => w_or (t_gt (e_lenT (e_ixT (e_v 19 rfl rfl) e_int rfl)) (e_lenT (e_v 4 rfl rfl))) fun _ => w_1o (t_gt (e_call L.wid (n, restr (sideC cs div (1 + (if val = true then 1 else 0))) cube, ms, mcls) (a_d (e_v 20 rfl rfl) (a_d (e_ixT (e_v 19 rfl rfl) e_int rfl) a_nil)) ⟨by show n ≤ 100; omega, by show ms.length ≤ 1000; omega, m1', hmn⟩ (by omega)) (e_v 12 rfl rfl))))
            (by simp only [List.length_map]; rw [decide_eq_false (by omega : ¬ ((ss.length : Int) < ms.length)), decide_eq_false (by omega : ¬ ((widthN cls : Int) < widthN mcls))]; rfl)) (s_nil ⟨_, _, _, _, _, _, rfl⟩)
    · rintro ds ρ' rfl ⟨s14, s15, s16, s17, s19, s20, rfl⟩
      exact s_ret e_bl ⟨_, rfl⟩
  · have hr' : rising cs div = false := by simpa using hr
    exact s_ifTR (t_T (t_not (t_val (e_call L.lri (n, cs, div) (a_d (e_v 6 rfl rfl) (a_d (e_v 8 rfl rfl) a_nil)) hf (by omega)))) (by rw [hr']; rfl)) (s_ret (e_and (e_call L.ref (n, cs, div, ss, 0) (a_d (e_v 6 rfl rfl) (a_d (e_v 8 rfl rfl) (a_d (e_v 4 rfl rfl) (a_d e_int a_nil)))) ⟨hf, hr'⟩ (by omega)) fun _ => e_1 (e_call L.ref (n, cs, div, ss, 1) (a_d (e_v 6 rfl rfl) (a_d (e_v 8 rfl rfl) (a_d (e_v 4 rfl rfl) (a_d e_int a_nil)))) ⟨hf, hr'⟩ (by omega))) ⟨_, rfl⟩)
end
end Rb
/-! the law whole -/
namespace Rb
open PySem PySem.Spec L2
theorem movedD_len (ns : List Int) (cs : List (List Int)) (div : List Int) : (movedD ns cs div).length = div.length := by unfold movedD; rw [(sortI_perm _).length_eq, List.length_map]
def spLaw (K : PySem.W.Frag) : Sp := fun vs H Q _ => ∃ (a : Addr) (ns : List Int), vs = [.ref a] ∧ SqL K H a (ns.map V.int) ∧ ns.length ≤ 63 ∧ ∀ H', Q (.bl true) H'
section
variable {X : Cx} {k : Nat}
theorem d_law1 (A : Addr) [fx : Fx X (defScope sP_law) nP_law k] [fl : Fl X] (hk : 104 ≤ k) (L : LawH X) :
    DS X (.any :: .own A PoolOk :: List.replicate 19 .any) ((defBody sP_law).drop 1) Okay := by
  refine s_asgP 2 rfl (e_own1 (A := A) 1 rfl rfl L.fal A [.int 4] rfl (a_d e_int a_nil) trivial (by omega)) ?_
  rintro _ ⟨n, cs, rfl, h1, hf, hm⟩
  refine s_asgP 3 rfl (e_own1 (A := A) 1 rfl rfl L.dvs (A, n, cs) [fD n cs] rfl (a_d (e_v 2 rfl rfl) a_nil) hf.z (by omega)) ?_
  rintro _ ⟨div, rfl, hd, hdl⟩
  replace hd : ∀ k ∈ div, 0 ≤ k ∧ k < (cs.length : Int) := hd
  refine s_asgP 4 rfl (e_own1 (A := A) 1 rfl rfl L.stp (A, n, cs) [fD n cs] rfl (a_d (e_v 2 rfl rfl) a_nil) ⟨h1, hf, hm⟩ (by omega)) ?_
  rintro _ ⟨ss, cls, rfl, hder, hlast, hlen⟩
  have okN := namesOf_ok n cs div
  have lenN := namesOf_len n cs div
  have n4 := hf.1
  refine s_ifF0 (t_F (t_not (t_val (e_call L.sam (.bool (rising cs div)) (a_d (e_call L.ris (n, cs, div) (a_d (e_v 2 rfl rfl) (a_d (e_v 3 rfl rfl) a_nil)) hf (by omega)) (a_d (e_call L.lri (n, cs, div) (a_d (e_v 2 rfl rfl) (a_d (e_v 3 rfl rfl) a_nil)) hf (by omega)) a_nil)) same_bool (by omega)))) rfl) ?_
  refine s_asg 5 rfl (e_call L.nms (n, cs, div) (a_d (e_v 2 rfl rfl) (a_d (e_v 3 rfl rfl) a_nil)) hf (by omega)) ?_
  have hfn := hf.names (div := div)
  generalize hns : namesOf n cs div = ns at *
  refine s_asg 6 rfl (e_tup (ds := [.int n, .tuple ((renF ns cs).map cD)]) (a_d (e_ixT (e_v 2 rfl rfl) e_int rfl) (a_d (e_tupL (e_sortC (cs := cs.map (renC ns)) (DE.to (e_lc0 (enc := cD) (xs := cs) (g := fun c => cD (renC ns c)) 7 (i_T (e_ixT (e_v 2 rfl rfl) e_int rfl)) rfl
    (fun s H C cl fp y fx' hy => e_cb L.nmd (ns, y) (a_d (e_v 5 rfl rfl) (a_d (e_v 7 rfl rfl) a_nil)) (hfn y hy) (by omega))) (by rw [List.map_map]; rfl)))) a_nil))) ?_
  refine s_asg 8 rfl (d := cD (movedD ns cs div)) (e_tupL (e_sortI (ns := div.map fun k => (((renF ns cs).idxOf (renC ns (cs.getD k.toNat []))) : Nat)) (DE.to (e_lc0 (enc := .int) (xs := div) (g := fun k => .int (((renF ns cs).idxOf (renC ns (cs.getD k.toNat []))) : Nat)) 9 (i_T (e_v 3 rfl rfl)) rfl
    (fun s H C cl fp y fx' hy => ?mv)) (by rw [List.map_map]; rfl)))) ?_
  case mv =>
    have hy2 := hd y hy
    have hyl : y.toNat < cs.length := by omega
    have hmem : cs.getD y.toNat [] ∈ cs := by rw [getD_get hyl]; exact List.getElem_mem _
    have hix := idxOf_first (renC_mem (ns := ns) hmem)
    have hat : atI (cs.map cD) y = some (cD (cs.getD y.toNat [])) := by
      have := atC hyl
      rwa [Int.toNat_of_nonneg hy2.1] at this
    exact e_idx (cs := renF ns cs) (cc := renC ns (cs.getD y.toNat [])) (e_ixT (e_v 6 rfl rfl) e_int rfl) (e_cb L.nmd (ns, cs.getD y.toNat []) (a_d (e_v 5 rfl rfl) (a_d (e_ixT (e_ixT (e_v 2 rfl rfl) e_int rfl) (e_v 9 rfl rfl) hat) a_nil)) (hfn _ hmem) (by omega)) hix.1 hix.2
  have hfo : Fm n (renF ns cs) := hf.ren okN lenN
  refine s_ifF0 (t_F (t_not (t_val (e_call L.sam (.tuple [cD ns, fD n (renF ns cs), cD (movedD ns cs div)]) (a_d (DE.to (e_call L.fll (n, cs, div) (a_d (e_v 2 rfl rfl) (a_d (e_v 3 rfl rfl) a_nil)) ⟨hf, hd⟩ (by omega)) (by simp only [hns])) (a_d (e_tup (ds := [cD ns, fD n (renF ns cs), cD (movedD ns cs div)]) (a_d (e_v 5 rfl rfl) (a_d (e_v 6 rfl rfl) (a_d (e_v 8 rfl rfl) a_nil)))) a_nil)) (same_fall hfo (by rw [lenN]; omega) ?ml) (by omega)))) rfl) ?_
  case ml =>
    have h40 : cs.length ≤ 40 := hf.2.1
    have hdl' : div.length ≤ cs.length := hdl
    rw [movedD_len]
    omega
  refine s_asg 4 rfl (e_call L.rns (ns, n, cs, ss) (a_d (e_v 2 rfl rfl) (a_d (e_v 5 rfl rfl) (a_d (e_v 4 rfl rfl) a_nil))) ⟨okN, lenN, hfn, hder.renPre lenN hf.2.2⟩ (by omega)) ?_
  exact d_law2 A _ _ _ n (renF ns cs) (movedD ns cs div) _ (cls.map (renC ns)) hfo (hder.ren okN lenN hf.2.2) (ren_last hlast) (by rw [List.length_map]; exact hlen) hk L
theorem b_law [fx : Fx X (defScope sP_law) nP_law k] [fl : Fl X] (hk : 104 ≤ k) (h0 : Hs X "_law_pool" 1 (spPoolR X.K)) (L : LawH X) (vs : List V) (H : Hp) (Q : VK) (E : XK) (h : spLaw X.K vs H Q E) : ∃ t, PSs X (defBody sP_law) t ∧ t { nx := fun _ H' => Q .non H', rt := Q } (L2.start nP_law vs) H := by
  obtain ⟨a, ns, rfl, hS, hz, q⟩ := h
  obtain ⟨v1, v2, v3⟩ := vis_of (X := X) (x := "_law_script") fx.hsc (by decide +kernel)
  have es := fun p => pe_var (X := X) (pos := p) (i := 0) (x := "_law_script") (by rw [fx.hN]; rfl) v1 v2 v3
  obtain ⟨fa, fd, ps, h1, h2, h3, h4⟩ := h0.ex
  obtain ⟨g1, g2⟩ := gl_of (x := "_law_pool") fx.hsc (by decide +kernel)
  refine ⟨_, pss_cons (ps_set (i := 1) (by rw [fx.hN]; exact fx.nd) (by rw [fx.hN]; rfl) (loc_of fx.hsc (by decide +kernel)) (pe_call h4 (fx.room.mono (by omega)) g1 h1 h2 h3 (.nil : Vals [] []) pass0 (pa_cons (es _) pa_nil) g2 rfl rfl) rfl (.inl (fl.fn _)))
    (ex_s (q := fun _ : Addr => True) (t := fun A => tS (.any :: .own A PoolOk :: List.replicate 19 .any) Okay) fun A _ => d_law1 A hk L), ?_⟩
  refine ⟨.ref a, rfl, a, ns, rfl, hS, hz, fun p F' H' g m => ⟨p, trivial, fun _ => none, H, F', g, ?_, ?_⟩⟩
  · have r0 : Rep H (.any :: List.replicate 20 .any) (L2.start nP_law [.ref a]) F' H' := rep_start (N := nP_law) (as := [.any]) (vs := [.ref a]) (.cons trivial .nil) (fun i j s t b hi hj hs ht => by
      match i, hi with
      | 0, hi => cases hi; cases hs
      | _ + 1, hi => cases hi)
    exact r0.set (i := 1) (s := .own p PoolOk) ⟨rfl, m⟩ (fun b hb j t hj ht => by
      match j, hj with
      | 0, hj => cases hj; cases ht
      | j + 1, hj =>
        have := List.eq_of_mem_replicate (List.mem_of_getElem? (l := List.replicate 20 Sl.any) (i := j) hj)
        rw [this] at ht
        cases ht)
  · rintro _ ⟨ρ', rfl⟩
    intro v σ' F2 H2 g2 s2 r2 i2
    rw [i2.bl_inv]
    exact q H2
end
end Rb
/-! the way from the head to the law's promise -/
namespace Rb
open PySem PySem.Spec L2
theorem walk {l : PySem.W.OpenLaw} {q : Program} {loose : List Str} {XP : (Str → Option Value) → Heap → Prop} {YP : World → Heap → Prop} {d : DefRec} {K : Params → PySem.W.Frag} (hn : l.most = some 63) (hdf : d.params.defaults = [])
    (hY : ∀ (w : World) (h : Heap), YP w h → (K w.params).In h)
    (F : ∀ (w : World) (mg : Str → Option Value) (fa : Addr) (h : Heap), (K w.params).In h → h.Ns mainGlobals mg → mg d.name = some (.ref fa) →
      ∃ fd : FuncData, (∀ (s : Shared) (u : Value), BindsTo s fd ⟨[u], []⟩ [("_law_script", u)]) ∧ ∀ base : Heap, (K w.params).In base → base.Ns mainGlobals mg → FnOk l.prog w (K w.params) mg base CX0 105 fa fd ["_law_script"] (spLaw (K w.params))) :
    PySem.W.WalkO q loose XP YP l.row.toRowW d [] (fun f vs => PySem.call f vs) :=
  L2.walk_of (n := 63) (k := 105) (x := "_law_script") (CX := fun _ => CX0) (sp := fun w => spLaw (K w.params)) hn (by decide) hdf ⟨rfl, by decide, by decide⟩ hY F (fun _ _ a ns hl _ hS => ⟨a, ns, rfl, hS, hl, fun _ => rfl⟩) fun _ _ _ _ _ z => z
theorem at_mk {K : PySem.W.Frag} {h : Heap} {mg : Str → Option Value} {x : Str} {st : Stmt} {f : Addr} {od an : Option Addr} {sl : Array (Option Value)} {oc kV dc pm cd ct : Value} (X : K.In h) (G : h.Ns mainGlobals mg)
    (a : PySem.W.nsIn K mainGlobals x = some (some (.ref f))) (l : K.lookup f = some ⟨oc, od, .func (PySem.W.fnOf x x (defArgs st) (defBody st) (defScope st) .none kV dc pm an cd ct), sl⟩) (c : PySem.W.codeIn K cd x = true) (k : PySem.W.keepIn K (.ref f) = true) : At K mg x st :=
  ⟨f, _, PySem.W.mg_of X G a, fun_mk l c k⟩
end Rb
/-! a promise for every def -/
namespace Rb
open PySem PySem.Spec L2
structure Txt (K : PySem.W.Frag) (mg : Str → Option Value) (CS CW CM CN : Addr) : Prop where
  bn : ∀ x ∈ BN, mg x = none
  aP_is_integer : At K mg "is_integer" sP_is_integer
  aP_is_number : At K mg "is_number" sP_is_number
  aP_is_earlier : At K mg "is_earlier" sP_is_earlier
  aP_made_clause : At K mg "made_clause" sP_made_clause
  aP_satisfies : At K mg "satisfies" sP_satisfies
  aP_left_over : At K mg "left_over" sP_left_over
  aP_restricted : At K mg "restricted" sP_restricted
  aP_resolvent : At K mg "resolvent" sP_resolvent
  aP_axiom_clause : At K mg "axiom_clause" sP_axiom_clause
  aP_resolved_clause : At K mg "resolved_clause" sP_resolved_clause
  aP_renamed_clause : At K mg "renamed_clause" sP_renamed_clause
  aP_renamed : At K mg "renamed" sP_renamed
  aP_variables_of : At K mg "variables_of" sP_variables_of
  aP_side_formula : At K mg "side_formula" sP_side_formula
  aP_common_variables : At K mg "common_variables" sP_common_variables
  aP_is_rising : At K mg "is_rising" sP_is_rising
  aP_rising_gate : At K mg "rising_gate" sP_rising_gate
  aP_rising_values : At K mg "rising_values" sP_rising_values
  aP_rising_value : At K mg "rising_value" sP_rising_value
  aP_next_clause : At K mg "next_clause" sP_next_clause
  aP_sources : At K mg "sources" sP_sources
  aP_moved : At K mg "moved" sP_moved
  aP_pruned_to : At K mg "pruned_to" sP_pruned_to
  aP_check_rising : At K mg "check_rising" sP_check_rising
  aP_rising_interpolant : At K mg "rising_interpolant" sP_rising_interpolant
  aP_falling_division : At K mg "falling_division" sP_falling_division
  aP_renamed_step : At K mg "renamed_step" sP_renamed_step
  aP_renamed_steps : At K mg "renamed_steps" sP_renamed_steps
  aL_is_integer : At K mg "_law_is_integer" sL_is_integer
  aL_spread : At K mg "_law_spread" sL_spread
  aL_draw : At K mg "_law_draw" sL_draw
  aL_rising : At K mg "_law_rising" sL_rising
  aL_is_clause : At K mg "_law_is_clause" sL_is_clause
  aL_with : At K mg "_law_with" sL_with
  aL_negated : At K mg "_law_negated" sL_negated
  aL_within : At K mg "_law_within" sL_within
  aL_fails : At K mg "_law_fails" sL_fails
  aL_leaf : At K mg "_law_leaf" sL_leaf
  aL_free : At K mg "_law_free" sL_free
  aL_cubes : At K mg "_law_cubes" sL_cubes
  aL_model : At K mg "_law_model" sL_model
  aL_some_clause : At K mg "_law_some_clause" sL_some_clause
  aL_drawn_formula : At K mg "_law_drawn_formula" sL_drawn_formula
  aL_false_formula : At K mg "_law_false_formula" sL_false_formula
  aL_some_steps : At K mg "_law_some_steps" sL_some_steps
  aL_next : At K mg "_law_next" sL_next
  aL_clauses : At K mg "_law_clauses" sL_clauses
  aL_is_refutation : At K mg "_law_is_refutation" sL_is_refutation
  aL_width : At K mg "_law_width" sL_width
  aL_division : At K mg "_law_division" sL_division
  aL_side : At K mg "_law_side" sL_side
  aL_occurring : At K mg "_law_occurring" sL_occurring
  aL_common : At K mg "_law_common" sL_common
  aL_values : At K mg "_law_values" sL_values
  aL_signs : At K mg "_law_signs" sL_signs
  aL_left : At K mg "_law_left" sL_left
  aL_gate : At K mg "_law_gate" sL_gate
  aL_is_rising : At K mg "_law_is_rising" sL_is_rising
  aL_names : At K mg "_law_names" sL_names
  aL_named : At K mg "_law_named" sL_named
  aL_some_tree : At K mg "_law_some_tree" sL_some_tree
  aL_write : At K mg "_law_write" sL_write
  aL_same : At K mg "_law_same" sL_same
  aL_pool : At K mg "_law_pool" sL_pool
  aL_is_refused : At K mg "_law_is_refused" sL_is_refused
  aP_rising_half : At K mg "rising_half" sP_rising_half
  sd : SidesOk K CS
  sdI : AtI K mg "Sides" CS "Sides.__init__" sM_Sides_init
  sdG : AtM K CS "gate" "Sides.gate" sM_Sides_gate
  wr : WrCls K CW
  wrI : AtI K mg "Shortener" CW "Shortener.__init__" sM_Shortener_init
  wrA : AtM K CW "add" "Shortener.add" sM_Shortener_add
  wrR : AtM K CW "resolve" "Shortener.resolve" sM_Shortener_resolve
  mkr : MkCls K CM
  mkI : AtI K mg "RisingMaker" CM "RisingMaker.__init__" sM_RisingMaker_init
  mkP : AtM K CM "place" "RisingMaker.place" sM_RisingMaker_place
  mkW : AtM K CM "worked_out" "RisingMaker.worked_out" sM_RisingMaker_worked_out
  nr : NotRisingX K mg CN
theorem EndK.imp {as : List Sl} {R R' : PyData → Prop} {o : Out} (h : EndK as R o) (i : ∀ d, R d → R' d) : EndK as R' o := by
  cases o with
  | nx ρ => exact ⟨i _ h.1, h.2⟩
  | rt d ρ => exact ⟨i _ h.1, h.2⟩
  | ro _ _ => exact h
section
variable {P : Program} {w : World} {K : PySem.W.Frag} {mg : Str → Option Value} {base : Heap} {CS CW CM CN : Addr}
theorem h_is_integer (T : Txt K mg CS CW CM CN) : Has P w K mg base "is_integer" 1 pIsInteger :=
  has_of T.aP_is_integer scP_is_integer T.bn (fun _ _ _ _ _ _ us hl => match us, hl with | [_], _ => rfl) (fun _ => rfl) fun X c fx fl t hp => d_is_integer t hp
theorem h_is_number (T : Txt K mg CS CW CM CN) : Has P w K mg base "is_number" 2 pIsNumber :=
  has_of T.aP_is_number scP_is_number T.bn (fun _ _ _ _ _ _ us hl => match us, hl with | [_], _ => rfl) (fun _ => rfl) fun X c fx fl t hp => d_is_number t (by decide) ((h_is_integer T).at c)
theorem h_is_earlier (T : Txt K mg CS CW CM CN) : Has P w K mg base "is_earlier" 3 pIsEarlier :=
  has_of T.aP_is_earlier scP_is_earlier T.bn (fun _ _ _ _ _ _ us hl => match us, hl with | [_, _], _ => rfl) (fun _ => rfl) fun X c fx fl t hp => d_is_earlier t.1 t.2 (by decide) ((h_is_number T).at c)
theorem h_made_clause (T : Txt K mg CS CW CM CN) : Has P w K mg base "made_clause" 1 pMade :=
  has_of T.aP_made_clause scP_made_clause T.bn (fun _ _ _ _ _ _ us hl => match us, hl with | [_], _ => rfl) (fun _ => rfl) fun X c fx fl t hp => d_made t hp
theorem h_satisfies (T : Txt K mg CS CW CM CN) : Has P w K mg base "satisfies" 1 pSat :=
  has_of T.aP_satisfies scP_satisfies T.bn (fun _ _ _ _ _ _ us hl => match us, hl with | [_, _], _ => rfl) (fun _ => rfl) fun X c fx fl t hp => d_sat t.1 t.2
theorem h_left_over (T : Txt K mg CS CW CM CN) : Has P w K mg base "left_over" 1 pLeft :=
  has_of T.aP_left_over scP_left_over T.bn (fun _ _ _ _ _ _ us hl => match us, hl with | [_, _], _ => rfl) (fun _ => rfl) fun X c fx fl t hp => d_left t.1 t.2
theorem h_restricted (T : Txt K mg CS CW CM CN) : Has P w K mg base "restricted" 2 pRestr :=
  has_of T.aP_restricted scP_restricted T.bn (fun _ _ _ _ _ _ us hl => match us, hl with | [_, _], _ => rfl) (fun _ => rfl) fun X c fx fl t hp => d_restr t.1 t.2.1 t.2.2 hp (by decide) ((h_satisfies T).at c) ((h_left_over T).at c)
theorem h_resolvent (T : Txt K mg CS CW CM CN) : Has P w K mg base "resolvent" 2 pResolv :=
  has_of T.aP_resolvent scP_resolvent T.bn (fun _ _ _ _ _ _ us hl => match us, hl with | [_, _, _], _ => rfl) (fun _ => rfl) fun X c fx fl t hp => d_resolv t.1 t.2.1 t.2.2 hp (by decide) ((h_made_clause T).at c)
theorem h_axiom_clause (T : Txt K mg CS CW CM CN) : Has P w K mg base "axiom_clause" 3 pAxiom :=
  has_of T.aP_axiom_clause scP_axiom_clause T.bn (fun _ _ _ _ _ _ us hl => match us, hl with | [_, _], _ => rfl) (fun _ => rfl) fun X c fx fl t hp => (d_axiom t.1 t.2.1 t.2.2 hp (by decide) ((h_is_number T).at c)).imp fun o ho => EndK.imp ho fun d e => e.trans (congrArg cD (getD_get hp).symm)
theorem h_resolved_clause (T : Txt K mg CS CW CM CN) : Has P w K mg base "resolved_clause" 4 pResolved :=
  has_of T.aP_resolved_clause scP_resolved_clause T.bn (fun _ _ _ _ _ _ us hl => match us, hl with | [_, _, _], _ => rfl) (fun _ => rfl) fun X c fx fl t hp => d_resolved t.1 t.2.1 t.2.2.1 t.2.2.2.1 t.2.2.2.2.1 t.2.2.2.2.2 hp.1 hp.2.1 hp.2.2.1 hp.2.2.2 (by decide) ((h_is_earlier T).at c) ((h_is_number T).at c) ((h_resolvent T).at c)
theorem h_renamed_clause (T : Txt K mg CS CW CM CN) : Has P w K mg base "renamed_clause" 1 pRenC :=
  has_of T.aP_renamed_clause scP_renamed_clause T.bn (fun _ _ _ _ _ _ us hl => match us, hl with | [_, _], _ => rfl) (fun _ => rfl) fun X c fx fl t hp => d_renC t.1 t.2.1 t.2.2 hp
theorem h_renamed (T : Txt K mg CS CW CM CN) : Has P w K mg base "renamed" 2 pRenF :=
  has_of T.aP_renamed scP_renamed T.bn (fun _ _ _ _ _ _ us hl => match us, hl with | [_, _], _ => rfl) (fun _ => rfl) fun X c fx fl t hp => d_renF t.1 t.2.1 t.2.2.1 t.2.2.2 hp (by decide) ((h_renamed_clause T).at c)
theorem h_variables_of (T : Txt K mg CS CW CM CN) : Has P w K mg base "variables_of" 1 pVars :=
  has_of T.aP_variables_of scP_variables_of T.bn (fun _ _ _ _ _ _ us hl => match us, hl with | [_], _ => rfl) (fun _ => rfl) fun X c fx fl t hp => d_vars t.1 t.2 hp
theorem h_side_formula (T : Txt K mg CS CW CM CN) : Has P w K mg base "side_formula" 1 pSide :=
  has_of T.aP_side_formula scP_side_formula T.bn (fun _ _ _ _ _ _ us hl => match us, hl with | [_, _, _], _ => rfl) (fun _ => rfl) fun X c fx fl t hp => d_side t.1 t.2.1 t.2.2.1 t.2.2.2
theorem h_common_variables (T : Txt K mg CS CW CM CN) : Has P w K mg base "common_variables" 2 pCommon :=
  has_of T.aP_common_variables scP_common_variables T.bn (fun _ _ _ _ _ _ us hl => match us, hl with | [_, _], _ => rfl) (fun _ => rfl) fun X c fx fl t hp => d_common t.1 t.2.1 t.2.2 hp (by decide) ((h_side_formula T).at c) ((h_variables_of T).at c)
theorem h_is_rising (T : Txt K mg CS CW CM CN) : Has P w K mg base "is_rising" 3 pRising :=
  has_of T.aP_is_rising scP_is_rising T.bn (fun _ _ _ _ _ _ us hl => match us, hl with | [_, _], _ => rfl) (fun _ => rfl) fun X c fx fl t hp => d_rising t.1 t.2.1 t.2.2 hp (by decide) ((h_side_formula T).at c) ((h_common_variables T).at c)
theorem h_rising_gate (T : Txt K mg CS CW CM CN) : Has P w K mg base "rising_gate" 1 pGate :=
  has_of T.aP_rising_gate scP_rising_gate T.bn (fun _ _ _ _ _ _ us hl => match us, hl with | [_], _ => rfl) (fun _ => rfl) fun X c fx fl t hp => d_gate t
theorem h_rising_values (T : Txt K mg CS CW CM CN) : Has P w K mg base "rising_values" 1 pValues :=
  has_of T.aP_rising_values scP_rising_values T.bn (fun _ _ _ _ _ _ us hl => match us, hl with | [_, _], _ => rfl) (fun _ => rfl) fun X c fx fl t hp => d_values t.1 t.2 hp.1 hp.2
theorem h_rising_value (T : Txt K mg CS CW CM CN) : Has P w K mg base "rising_value" 2 pValue :=
  has_of T.aP_rising_value scP_rising_value T.bn (fun _ _ _ _ _ _ us hl => match us, hl with | [_, _], _ => rfl) (fun _ => rfl) fun X c fx fl t hp => d_value t.1 t.2.1 t.2.2 hp.1 hp.2.1 hp.2.2 (by decide) ((h_rising_values T).at c)
theorem h_next_clause (T : Txt K mg CS CW CM CN) : Has P w K mg base "next_clause" 5 pNext :=
  has_of T.aP_next_clause scP_next_clause T.bn (fun _ _ _ _ _ _ us hl => match us, hl with | [_, _, _], _ => rfl) (fun _ => rfl) fun X c fx fl t hp => d_next t.1 t.2.1 t.2.2.1 t.2.2.2 hp (by decide) ((h_axiom_clause T).at c) ((h_resolved_clause T).at c)
theorem h_sources (T : Txt K mg CS CW CM CN) : Has P w K mg base "sources" 1 pSources :=
  has_of T.aP_sources scP_sources T.bn (fun _ _ _ _ _ _ us hl => match us, hl with | [_], _ => rfl) (fun _ => rfl) fun X c fx fl t hp => d_sources t
theorem h_moved (T : Txt K mg CS CW CM CN) : Has P w K mg base "moved" 1 pMoved :=
  has_of T.aP_moved scP_moved T.bn (fun _ _ _ _ _ _ us hl => match us, hl with | [_, _], _ => rfl) (fun _ => rfl) fun X c fx fl t hp => d_moved t hp
theorem h_pruned_to (T : Txt K mg CS CW CM CN) : Has P w K mg base "pruned_to" 2 pPruned :=
  has_of T.aP_pruned_to scP_pruned_to T.bn (fun _ _ _ _ _ _ us hl => match us, hl with | [_, _], _ => rfl) (fun _ => rfl) fun X c fx fl t hp => d_pruned t hp (by decide) ((h_sources T).at c) ((h_moved T).at c)
theorem h_check_rising (T : Txt K mg CS CW CM CN) : Has P w K mg base "check_rising" 4 pCheck :=
  has_of T.aP_check_rising scP_check_rising T.bn (fun _ _ _ _ _ _ us hl => match us, hl with | [_, _], _ => rfl) (fun _ => rfl) fun X c fx fl t hp => d_check t.1 t.2.1 t.2.2 hp.1 hp.2 (by decide) ((h_is_rising T).at c)
theorem k_Sides (T : Txt K mg CS CW CM CN) : Mks P w K mg base 3 "Sides" CS (pSides CS) :=
  mks_of T.sdI scM_Sides_init T.bn (fun _ _ _ _ _ _ us hl => match us, hl with | [_, _, _], _ => rfl) (fun vs H Q E h => by
    obtain ⟨t, y, dx, us, F, rfl, _, _, _, _, ha, _⟩ := h
    have := Paired.length ha
    simp only [List.length_cons, List.length_map, List.length_nil] at this ⊢
    omega) fun X c fx fl vs H Q E hh => i_sides (by rw [c.K]; exact T.sd) (by decide) ((h_side_formula T).at c) ((h_variables_of T).at c) ((h_common_variables T).at c) vs H Q E hh
theorem m_gate (T : Txt K mg CS CW CM CN) : Met P w K mg base 1 CS "gate" (pGateM CS) :=
  met_k T.sdG scM_Sides_gate T.bn (fun _ _ _ _ _ _ us hl => match us, hl with | [_, _], _ => rfl) (fun _ => rfl) fun X c fx fl t hp => d_sgate (by rw [c.K]; exact T.sd) t
theorem h_rising_interpolant (T : Txt K mg CS CW CM CN) : Has P w K mg base "rising_interpolant" 5 pInterp :=
  has_of T.aP_rising_interpolant scP_rising_interpolant T.bn (fun _ _ _ _ _ _ us hl => match us, hl with | [_, _, _], _ => rfl) (fun _ => rfl) fun X c fx fl t hp => d_interp t.1 t.2.1 t.2.2.1 t.2.2.2 hp.1 hp.2 (by decide) ((h_check_rising T).at c) ((k_Sides T).at c) ((m_gate T).at c) ((h_rising_gate T).at c)
theorem h_falling_division (T : Txt K mg CS CW CM CN) : Has P w K mg base "falling_division" 3 pFalling :=
  has_of T.aP_falling_division scP_falling_division T.bn (fun _ _ _ _ _ _ us hl => match us, hl with | [_, _], _ => rfl) (fun _ => rfl) fun X c fx fl t hp => d_falling t.1 t.2.1 t.2.2 hp.1 hp.2 (by decide) ((h_side_formula T).at c) ((h_common_variables T).at c) ((h_renamed T).at c) ((h_renamed_clause T).at c)
theorem h_renamed_step (T : Txt K mg CS CW CM CN) : Has P w K mg base "renamed_step" 2 pRenS :=
  has_of T.aP_renamed_step scP_renamed_step T.bn (fun _ _ _ _ _ _ us hl => match us, hl with | [_, _, _, _], _ => rfl) (fun _ => rfl) fun X c fx fl t hp => d_renS t.1 t.2.1 t.2.2.1 t.2.2.2.1 t.2.2.2.2 hp.1 hp.2.1 hp.2.2 (by decide) ((h_renamed_clause T).at c)
theorem h_renamed_steps (T : Txt K mg CS CW CM CN) : Has P w K mg base "renamed_steps" 3 pRenSs :=
  has_of T.aP_renamed_steps scP_renamed_steps T.bn (fun _ _ _ _ _ _ us hl => match us, hl with | [_, _, _], _ => rfl) (fun _ => rfl) fun X c fx fl t hp => d_renSs t.1 t.2.1 t.2.2.1 t.2.2.2 hp.1 hp.2.1 hp.2.2.1 hp.2.2.2 (by decide) ((h_renamed T).at c) ((h_renamed_step T).at c)
theorem h_Lis_integer (T : Txt K mg CS CW CM CN) : Has P w K mg base "_law_is_integer" 1 pLint :=
  has_of T.aL_is_integer scL_is_integer T.bn (fun _ _ _ _ _ _ us hl => match us, hl with | [_], _ => rfl) (fun _ => rfl) fun X c fx fl t hp => d_Lint t hp
theorem h_Lspread (T : Txt K mg CS CW CM CN) : Has P w K mg base "_law_spread" 1 pLspread :=
  has_of T.aL_spread scL_spread T.bn (fun _ _ _ _ _ _ us hl => match us, hl with | [_], _ => rfl) (fun _ => rfl) fun X c fx fl t hp => d_Lspread t
theorem h_Ldraw (T : Txt K mg CS CW CM CN) : Has P w K mg base "_law_draw" 2 pLdraw :=
  has_of T.aL_draw scL_draw T.bn (fun _ _ _ _ _ _ us hl => match us, hl with | [_, _], _ => rfl) (fun _ => rfl) fun X c fx fl t hp => d_Ldraw t.1 t.2 hp (by decide) ((h_Lspread T).at c)
theorem h_Lrising (T : Txt K mg CS CW CM CN) : Has P w K mg base "_law_rising" 1 pLrising :=
  has_of T.aL_rising scL_rising T.bn (fun _ _ _ _ _ _ us hl => match us, hl with | [_], _ => rfl) (fun _ => rfl) fun X c fx fl t hp => d_Lrising t hp.1 hp.2
theorem h_Lis_clause (T : Txt K mg CS CW CM CN) : Has P w K mg base "_law_is_clause" 2 pLclause :=
  has_of T.aL_is_clause scL_is_clause T.bn (fun _ _ _ _ _ _ us hl => match us, hl with | [_, _], _ => rfl) (fun _ => rfl) fun X c fx fl t hp => d_Lclause t.1 t.2 hp.1 hp.2 (by decide) ((h_Lis_integer T).at c) ((h_Lrising T).at c)
theorem h_Lwith (T : Txt K mg CS CW CM CN) : Has P w K mg base "_law_with" 1 pWith :=
  has_of T.aL_with scL_with T.bn (fun _ _ _ _ _ _ us hl => match us, hl with | [_, _], _ => rfl) (fun _ => rfl) fun X c fx fl t hp => d_with t.1 t.2 hp
theorem h_LwithL (T : Txt K mg CS CW CM CN) : Has P w K mg base "_law_with" 1 pWithL :=
  has_of T.aL_with scL_with T.bn (fun _ _ _ _ _ _ us hl => match us, hl with | [_, _], _ => rfl) (fun _ => rfl) fun X c fx fl t hp => d_withL t.1 t.2 hp
theorem h_Lnegated (T : Txt K mg CS CW CM CN) : Has P w K mg base "_law_negated" 1 pNeg :=
  has_of T.aL_negated scL_negated T.bn (fun _ _ _ _ _ _ us hl => match us, hl with | [_], _ => rfl) (fun _ => rfl) fun X c fx fl t hp => d_neg t
theorem h_Lwithin (T : Txt K mg CS CW CM CN) : Has P w K mg base "_law_within" 1 pWithin :=
  has_of T.aL_within scL_within T.bn (fun _ _ _ _ _ _ us hl => match us, hl with | [_, _], _ => rfl) (fun _ => rfl) fun X c fx fl t hp => d_within t.1 t.2
theorem h_Lfails (T : Txt K mg CS CW CM CN) : Has P w K mg base "_law_fails" 2 pFails :=
  has_of T.aL_fails scL_fails T.bn (fun _ _ _ _ _ _ us hl => match us, hl with | [_, _], _ => rfl) (fun _ => rfl) fun X c fx fl t hp => d_fails t.1 t.2 (by decide) ((h_Lnegated T).at c) ((h_Lwithin T).at c)
theorem h_Lleaf (T : Txt K mg CS CW CM CN) : Has P w K mg base "_law_leaf" 3 pLeaf :=
  has_of T.aL_leaf scL_leaf T.bn (fun _ _ _ _ _ _ us hl => match us, hl with | [_, _], _ => rfl) (fun _ => rfl) fun X c fx fl t hp => d_leaf t.1 t.2.1 t.2.2 hp (by decide) ((h_Lfails T).at c)
theorem h_Lfree (T : Txt K mg CS CW CM CN) : Has P w K mg base "_law_free" 1 pFree :=
  has_of T.aL_free scL_free T.bn (fun _ _ _ _ _ _ us hl => match us, hl with | [_, _], _ => rfl) (fun _ => rfl) fun X c fx fl t hp => d_free t.1 t.2.1 t.2.2 hp
theorem h_Lcubes (T : Txt K mg CS CW CM CN) : Has P w K mg base "_law_cubes" 2 pCubes :=
  has_of T.aL_cubes scL_cubes T.bn (fun _ _ _ _ _ _ us hl => match us, hl with | [_], _ => rfl) (fun _ => rfl) fun X c fx fl t hp => d_cubes t hp (by decide) ((h_Lwith T).at c)
theorem h_Lmodel (T : Txt K mg CS CW CM CN) : Has P w K mg base "_law_model" 4 pModel :=
  has_of T.aL_model scL_model T.bn (fun _ _ _ _ _ _ us hl => match us, hl with | [_], _ => rfl) (fun _ => rfl) fun X c fx fl t hp => d_model t.1 t.2 hp.1 hp.2 (by decide) ((h_Lcubes T).at c) ((h_Lleaf T).at c)
theorem h_Lsome_clause (T : Txt K mg CS CW CM CN) : Has P w K mg base "_law_some_clause" 3 pLsome :=
  has_of T.aL_some_clause scL_some_clause T.bn (fun _ _ _ _ _ _ us hl => match us, hl with | [_, _, _], _ => rfl) (fun _ => rfl) fun X c fx fl t hp => d_Lsome t.1 t.2 hp (by decide) ((h_Ldraw T).at c)
theorem h_Ldrawn_formula (T : Txt K mg CS CW CM CN) : Has P w K mg base "_law_drawn_formula" 4 pLdrawn :=
  has_of T.aL_drawn_formula scL_drawn_formula T.bn (fun _ _ _ _ _ _ us hl => match us, hl with | [_, _], _ => rfl) (fun _ => rfl) fun X c fx fl t hp => d_Ldrawn t (by decide) ((h_Ldraw T).at c) ((h_Lsome_clause T).at c)
theorem h_Lfalse_formula (T : Txt K mg CS CW CM CN) : Has P w K mg base "_law_false_formula" 5 pLfalse :=
  has_of T.aL_false_formula scL_false_formula T.bn (fun _ _ _ _ _ _ us hl => match us, hl with | [_, _], _ => rfl) (fun _ => rfl) fun X c fx fl t hp => d_Lfalse t (by decide) ((h_Ldraw T).at c) ((h_Ldrawn_formula T).at c) ((h_Lmodel T).at c)
theorem h_Lsome_tree (T : Txt K mg CS CW CM CN) : ∀ d : Nat, Has P w K mg base "_law_some_tree" (4 + d) (pLtree d)
  | 0 => has_of (k := 3) T.aL_some_tree scL_some_tree T.bn (fun _ _ _ _ _ _ us hl => match us, hl with | [_, _, _], _ => rfl) (fun _ => rfl) fun X c fx fl t hp => d_Ltree 0 t hp (by decide) ((h_Ldraw T).at c) ((h_Lleaf T).at c) ((h_Lfree T).at c) ((h_Lfails T).at c) ((h_Lwith T).at c) fun d' e => by omega
  | d + 1 => has_of (k := 4 + d) T.aL_some_tree scL_some_tree T.bn (fun _ _ _ _ _ _ us hl => match us, hl with | [_, _, _], _ => rfl) (fun _ => rfl) fun X c fx fl t hp => d_Ltree (d + 1) t hp (by omega) ((h_Ldraw T).at c) ((h_Lleaf T).at c) ((h_Lfree T).at c) ((h_Lfails T).at c) ((h_Lwith T).at c) fun d' e => by
    obtain rfl : d = d' := by omega
    exact ⟨Nat.le_refl _, (h_Lsome_tree T d).at c⟩
theorem h_Lwrite (T : Txt K mg CS CW CM CN) : ∀ d : Nat, Has P w K mg base "_law_write" (3 + d) (pLwrite d)
  | 0 => has_ofG (k := 2) T.aL_write scL_write T.bn (fun _ _ _ _ _ _ us hl => match us, hl with | [_, _, _, _, _], _ => rfl) (fun _ => rfl) fun X c fx fl t hp => d_Lwrite 0 t hp (by decide) ((h_Ldraw T).at c) ((h_Lnegated T).at c) ((h_Lwith T).at c) fun d' e => by omega
  | d + 1 => has_ofG (k := 3 + d) T.aL_write scL_write T.bn (fun _ _ _ _ _ _ us hl => match us, hl with | [_, _, _, _, _], _ => rfl) (fun _ => rfl) fun X c fx fl t hp => d_Lwrite (d + 1) t hp (by omega) ((h_Ldraw T).at c) ((h_Lnegated T).at c) ((h_Lwith T).at c) fun d' e => by
    obtain rfl : d = d' := by omega
    exact ⟨Nat.le_refl _, (h_Lwrite T d).at c⟩
theorem h_Lsame (T : Txt K mg CS CW CM CN) : ∀ m : Nat, Has P w K mg base "_law_same" (m + 1) (pSame m)
  | 0 => has_of T.aL_same scL_same T.bn (fun _ _ _ _ _ _ us hl => match us, hl with | [_, _], _ => rfl) (fun _ => rfl) fun X c fx fl t hp => d_same 0 t hp fun m' e => by omega
  | m + 1 => has_of T.aL_same scL_same T.bn (fun _ _ _ _ _ _ us hl => match us, hl with | [_, _], _ => rfl) (fun _ => rfl) fun X c fx fl t hp => d_same (m + 1) t hp fun m' e => by
    obtain rfl : m = m' := by omega
    exact ⟨Nat.le_refl _, (h_Lsame T m).at c⟩
theorem h_Lsome_steps (T : Txt K mg CS CW CM CN) : Has P w K mg base "_law_some_steps" 9 pLsteps :=
  has_of T.aL_some_steps scL_some_steps T.bn (fun _ _ _ _ _ _ us hl => match us, hl with | [_, _], _ => rfl) (fun _ => rfl) fun X c fx fl t hp => d_Lsteps t.1 t.2.1 t.2.2 hp (by decide) ((h_Ldraw T).at c) ((h_Lsome_tree T 4).at c) ((h_Lwrite T 4).at c)
theorem h_Lnext (T : Txt K mg CS CW CM CN) : Has P w K mg base "_law_next" 3 pLnext :=
  has_of T.aL_next scL_next T.bn (fun _ _ _ _ _ _ us hl => match us, hl with | [_, _, _], _ => rfl) (fun _ => rfl) fun X c fx fl t hp => d_Lnext t.1 t.2.1 t.2.2.1 t.2.2.2.1 t.2.2.2.2 hp.1 hp.2 (by decide) ((h_Lis_integer T).at c) ((h_Lis_clause T).at c) ((h_Lwithin T).at c)
theorem h_Lclauses (T : Txt K mg CS CW CM CN) : Has P w K mg base "_law_clauses" 4 pLclauses :=
  has_of T.aL_clauses scL_clauses T.bn (fun _ _ _ _ _ _ us hl => match us, hl with | [_, _], _ => rfl) (fun _ => rfl) fun X c fx fl t hp => d_Lclauses t.1 t.2.1 t.2.2.1 t.2.2.2 hp.1 hp.2.1 hp.2.2 (by decide) ((h_Lnext T).at c)
theorem h_Lis_refutation (T : Txt K mg CS CW CM CN) : Has P w K mg base "_law_is_refutation" 5 pLrefut :=
  has_of T.aL_is_refutation scL_is_refutation T.bn (fun _ _ _ _ _ _ us hl => match us, hl with | [_, _], _ => rfl) (fun _ => rfl) fun X c fx fl t hp => d_Lrefut t.1 t.2.1 t.2.2.1 t.2.2.2 hp.1 hp.2.1 hp.2.2.1 hp.2.2.2 (by decide) ((h_Lclauses T).at c)
theorem h_Lwidth (T : Txt K mg CS CW CM CN) : Has P w K mg base "_law_width" 5 pLwidth :=
  has_of T.aL_width scL_width T.bn (fun _ _ _ _ _ _ us hl => match us, hl with | [_, _], _ => rfl) (fun _ => rfl) fun X c fx fl t hp => d_Lwidth t.1 t.2.1 t.2.2.1 t.2.2.2 hp.1 hp.2.1 hp.2.2.1 hp.2.2.2 (by decide) ((h_Lclauses T).at c)
theorem h_Ldivision (T : Txt K mg CS CW CM CN) : Has P w K mg base "_law_division" 3 pLdivision :=
  has_of T.aL_division scL_division T.bn (fun _ _ _ _ _ _ us hl => match us, hl with | [_, _], _ => rfl) (fun _ => rfl) fun X c fx fl t hp => d_Ldivision t.1 t.2.1 t.2.2 hp (by decide) ((h_Ldraw T).at c)
theorem h_Lside (T : Txt K mg CS CW CM CN) : Has P w K mg base "_law_side" 1 pLside :=
  has_of T.aL_side scL_side T.bn (fun _ _ _ _ _ _ us hl => match us, hl with | [_, _, _], _ => rfl) (fun _ => rfl) fun X c fx fl t hp => d_Lside t.1 t.2.1 t.2.2.1 t.2.2.2 hp
theorem h_Loccurring (T : Txt K mg CS CW CM CN) : Has P w K mg base "_law_occurring" 1 pLocc :=
  has_of T.aL_occurring scL_occurring T.bn (fun _ _ _ _ _ _ us hl => match us, hl with | [_], _ => rfl) (fun _ => rfl) fun X c fx fl t hp => d_Locc t.1 t.2 hp
theorem h_Lcommon (T : Txt K mg CS CW CM CN) : Has P w K mg base "_law_common" 2 pCommon :=
  has_of T.aL_common scL_common T.bn (fun _ _ _ _ _ _ us hl => match us, hl with | [_, _], _ => rfl) (fun _ => rfl) fun X c fx fl t hp => d_Lcommon t.1 t.2.1 t.2.2 hp (by decide) ((h_Lside T).at c) ((h_Loccurring T).at c)
theorem h_Lvalues (T : Txt K mg CS CW CM CN) : Has P w K mg base "_law_values" 1 pValues :=
  has_of T.aL_values scL_values T.bn (fun _ _ _ _ _ _ us hl => match us, hl with | [_, _], _ => rfl) (fun _ => rfl) fun X c fx fl t hp => d_Lvalues t.1 t.2 hp.1 hp.2
theorem h_Lsigns (T : Txt K mg CS CW CM CN) : Has P w K mg base "_law_signs" 2 pLsigns :=
  has_of T.aL_signs scL_signs T.bn (fun _ _ _ _ _ _ us hl => match us, hl with | [_], _ => rfl) (fun _ => rfl) fun X c fx fl t hp => d_Lsigns t hp (by decide) ((h_Lwith T).at c)
theorem h_Lleft (T : Txt K mg CS CW CM CN) : Has P w K mg base "_law_left" 1 pLleft :=
  has_of T.aL_left scL_left T.bn (fun _ _ _ _ _ _ us hl => match us, hl with | [_, _], _ => rfl) (fun _ => rfl) fun X c fx fl t hp => d_Lleft t.1 t.2.1 t.2.2 hp
theorem h_Lgate (T : Txt K mg CS CW CM CN) : Has P w K mg base "_law_gate" 3 pLgate :=
  has_of T.aL_gate scL_gate T.bn (fun _ _ _ _ _ _ us hl => match us, hl with | [_, _, _, _], _ => rfl) (fun _ => rfl) fun X c fx fl t hp => d_Lgate t.1 t.2.1 t.2.2.1 t.2.2.2 hp (by decide) ((h_Lcommon T).at c) ((h_Lside T).at c) ((h_Loccurring T).at c)
theorem h_Lis_rising (T : Txt K mg CS CW CM CN) : Has P w K mg base "_law_is_rising" 3 pRising :=
  has_of T.aL_is_rising scL_is_rising T.bn (fun _ _ _ _ _ _ us hl => match us, hl with | [_, _], _ => rfl) (fun _ => rfl) fun X c fx fl t hp => d_LisRising t.1 t.2.1 t.2.2 hp (by decide) ((h_Lside T).at c) ((h_Lcommon T).at c)
theorem h_Lnames (T : Txt K mg CS CW CM CN) : Has P w K mg base "_law_names" 3 pLnames :=
  has_of T.aL_names scL_names T.bn (fun _ _ _ _ _ _ us hl => match us, hl with | [_, _], _ => rfl) (fun _ => rfl) fun X c fx fl t hp => d_Lnames t.1 t.2.1 t.2.2 hp (by decide) ((h_Lside T).at c) ((h_Lcommon T).at c)
theorem h_Lnamed (T : Txt K mg CS CW CM CN) : Has P w K mg base "_law_named" 1 pLnamed :=
  has_of T.aL_named scL_named T.bn (fun _ _ _ _ _ _ us hl => match us, hl with | [_, _], _ => rfl) (fun _ => rfl) fun X c fx fl t hp => d_Lnamed t.2 t.1 hp
end
end Rb
/-! the objects, what raises, the law's promise -/
namespace Rb
open PySem PySem.Spec L2
theorem raw_of {X : Cx} {st : Stmt} {N : List Str} {T : Type} {ar : T → List Sl} {pre : T → Prop} {R : T → PyData → Prop} {vs : List V} {H : Hp} {Q : VK} {E : XK} (h : spK ar pre R vs H Q E)
    (body : ∀ t, pre t → DS X (ar t ++ List.replicate (N.length - (ar t).length) .any) (defBody st) (EndK (ar t) (R t))) : ∃ t, PSs X (defBody st) t ∧ t { nx := fun _ H' => Q .non H', rt := Q } (L2.start N vs) H := by
  obtain ⟨t, F0, H0, F', hp, g, ha, hap, q⟩ := h
  refine ⟨_, body t hp, F0, H0, F', g, rep_start ha hap, fun o ho => ?_⟩
  have mutR : ∀ {ρ : List Sl} {σ : St} {F2 H2 : Hp}, Rep H0 ρ σ F2 H2 → (∀ s ∈ ar t, (∃ d, s = .dat d) ∨ s ∈ ρ) → ∀ s ∈ ar t, MutOk H0 F2 H2 s := fun {ρ σ F2 H2} r2 h s hs => by
    rcases h s hs with ⟨d, rfl⟩ | hm
    · trivial
    · obtain ⟨n, hn, en⟩ := List.getElem_of_mem hm
      exact SlOk.rep r2 (by rw [List.getElem?_eq_getElem hn, en])
  cases o with
  | nx ρ' => exact fun σ' F2 H2 g2 s2 r2 => q .non .none F2 H2 ho.1 g2 s2 (mutR r2 ho.2) is_non
  | rt d ρ' => exact fun v σ' F2 H2 g2 s2 r2 i2 => q v d F2 H2 ho.1 g2 s2 (mutR r2 ho.2) i2
  | ro P' ρ' => exact ho.elim
theorem Ctx.nox {P : Program} {w : World} {K : PySem.W.Frag} {mg : Str → Option Value} {base : Heap} {X : Cx} (c : Ctx P w K mg base X) : Ctx P w K mg base X.nox := ⟨c.p, c.w, c.K, c.mg, c.base⟩
section
variable {P : Program} {w : World} {K : PySem.W.Frag} {mg : Str → Option Value} {base : Heap} {CS CW CM CN : Addr}
theorem k_Shortener (T : Txt K mg CS CW CM CN) : Mks P w K mg base 1 "Shortener" CW (spIW CW) :=
  mks_of T.wrI scM_Shortener_init T.bn (fun _ _ _ _ _ _ us hl => match us, hl with | [_, _], _ => rfl) (fun vs H Q E h => by
    obtain ⟨n, half, y, dx, u, F, rfl, _⟩ := h
    rfl) fun X c fx fl vs H Q E hh => b_iw (by rw [c.K]; exact T.wr) vs H Q E hh
theorem m_add (T : Txt K mg CS CW CM CN) : Met P w K mg base 6 CW "add" (spAdd CW) :=
  met_of T.wrA scM_Shortener_add T.bn (fun _ _ _ _ _ _ us hl => match us, hl with | [_, _], _ => rfl) (fun vs H Q E h => by
    obtain ⟨t, s, x, u, F0, H0, F, rfl, _⟩ := h
    rfl) fun X c fx fl vs H Q E hh => b_add (by rw [c.K]; exact T.wr) (by decide) ((h_next_clause T).at c) vs H Q E hh
theorem m_resolve (T : Txt K mg CS CW CM CN) : Met P w K mg base 7 CW "resolve" (spRes CW) :=
  met_of T.wrR scM_Shortener_resolve T.bn (fun _ _ _ _ _ _ us hl => match us, hl with | [_, _, _, _], _ => rfl) (fun vs H Q E h => by
    obtain ⟨t, a, b, v, p, q, F0, H0, F, rfl, _⟩ := h
    rfl) fun X c fx fl vs H Q E hh => b_res (by rw [c.K]; exact T.wr) (by decide) ((m_add T).at c) vs H Q E hh
theorem k_Maker (T : Txt K mg CS CW CM CN) : Mks P w K mg base 7 "RisingMaker" CM (spMI CM CW) :=
  mks_of T.mkI scM_RisingMaker_init T.bn (fun _ _ _ _ _ _ us hl => match us, hl with | [_, _, _, _, _], _ => rfl) (fun vs H Q E h => by
    obtain ⟨c, y, dx, us, F, rfl, _, _, _, _, ha, _⟩ := h
    have := Paired.length ha
    simp only [List.length_cons, List.length_map, List.length_nil] at this ⊢
    omega) fun X c fx fl vs H Q E hh => b_mi (by rw [c.K]; exact T.mkr) (by decide) ((h_rising_interpolant T).at c) ((h_rising_values T).at c) ((h_restricted T).at c) ((h_side_formula T).at c) ((k_Shortener T).at c) vs H Q E hh
theorem m_place (T : Txt K mg CS CW CM CN) : Met P w K mg base 103 CM "place" (spPl CM CW 47) := h_tower T.mkP T.mkW T.bn T.mkr (m_add T) (m_resolve T) (h_left_over T) 47
theorem h_rising_half (T : Txt K mg CS CW CM CN) : Has P w K mg base "rising_half" 104 pHalf :=
  has_raw T.aP_rising_half scP_rising_half T.bn (fun _ _ _ _ _ _ us hl => match us, hl with | [_, _, _, _], _ => rfl) (fun vs H Q E h => by
    obtain ⟨c, F0, H0, F, _, _, ha, _⟩ := h
    exact (Paired.length ha).trans rfl) fun X c fx fl _ _ vs H Q E hh => b_half (by rw [c.K]; exact T.mkr) (by rw [c.K]; exact T.wr) (by decide) ((k_Maker T).at c) ((m_place T).at c) ((h_pruned_to T).at c) vs H Q E hh
theorem h_Lpool (T : Txt K mg CS CW CM CN) : Has P w K mg base "_law_pool" 1 (spPoolR K) :=
  has_raw T.aL_pool scL_pool T.bn (fun _ _ _ _ _ _ us hl => match us, hl with | [_], _ => rfl) (fun vs H Q E h => by
    obtain ⟨a, ns, rfl, _⟩ := h
    rfl) fun X c fx fl _ _ vs H Q E hh => b_pool vs H Q E (by rw [c.K]; exact hh)
/-! ### what raises -/
theorem x_check_rising (T : Txt K mg CS CW CM CN) : HasX P w K mg base "check_rising" 4 (pCheckX CN) :=
  hasX_of T.aP_check_rising scP_check_rising T.bn (fun _ _ _ _ _ _ us hl => match us, hl with | [_, _], _ => rfl) (fun _ => rfl) fun X c fx fl E tk t hp => d_checkX t.1 t.2.1 t.2.2 hp.1 hp.2 (by rw [c.K, c.mg]; exact T.nr.ok) tk (by decide) ((h_is_rising T).at c.nox)
theorem x_rising_interpolant (T : Txt K mg CS CW CM CN) : HasX P w K mg base "rising_interpolant" 5 (pInterpX CN) :=
  hasX_of T.aP_rising_interpolant scP_rising_interpolant T.bn (fun _ _ _ _ _ _ us hl => match us, hl with | [_, _, _], _ => rfl) (fun _ => rfl) fun X c fx fl E tk t hp => d_interpX t.1 t.2.1 t.2.2.1 t.2.2.2 hp.1 hp.2 tk (by decide) ((x_check_rising T).at c)
theorem kx_Maker (T : Txt K mg CS CW CM CN) : MksX P w K mg base 6 "RisingMaker" CM (spMX CM CN) :=
  mksX_of T.mkI scM_RisingMaker_init T.bn (fun _ _ _ _ _ _ us hl => match us, hl with | [_, _, _, _, _], _ => rfl) (fun vs H Q E h => by
    obtain ⟨c, y, dx, us, F, rfl, _, _, _, _, _, ha, _⟩ := h
    have := Paired.length ha
    simp only [List.length_cons, List.length_map, List.length_nil] at this ⊢
    omega) fun X c fx fl vs H Q E tk hh => b_mx (by rw [c.K]; exact T.mkr) (by decide) ((x_rising_interpolant T).at c) vs H Q E tk hh
theorem x_rising_half (T : Txt K mg CS CW CM CN) : HasX P w K mg base "rising_half" 8 (pHalfX CN) :=
  hasX_of T.aP_rising_half scP_rising_half T.bn (fun _ _ _ _ _ _ us hl => match us, hl with | [_, _, _, _], _ => rfl) (fun _ => rfl) fun X c fx fl E tk t hp => d_halfX t hp.1 hp.2 tk (by decide) ((kx_Maker T).at c)
theorem h_Lis_refused (T : Txt K mg CS CW CM CN) : Has P w K mg base "_law_is_refused" 9 pLrefused :=
  has_raw T.aL_is_refused scL_is_refused T.bn (fun _ _ _ _ _ _ us hl => match us, hl with | [_, _, _, _], _ => rfl) (fun vs H Q E h => by
    obtain ⟨c, F0, H0, F, _, _, ha, _⟩ := h
    exact (Paired.length ha).trans rfl) fun X c fx fl hst hfr vs H Q E hh => raw_of hh fun t hp => d_Lrefused t.1 t.2.1 t.2.2.1 t.2.2.2.1 t.2.2.2.2 hp.1 hp.2 (by rw [c.K, c.mg]; exact T.nr) hst hfr (by decide) ((x_rising_interpolant T).at c) ((x_rising_half T).at c) ((h_Lsigns T).at c) ((h_Lcommon T).at c) (common_few hp.1)
/-! ### the law -/
theorem lawH {X : Cx} (T : Txt K mg CS CW CM CN) (c : Ctx P w K mg base X) : LawH X :=
  ⟨(h_Lfalse_formula T).at c, (h_Ldivision T).at c, (h_Lsome_steps T).at c, (h_Lsame T 4).at c, (h_is_rising T).at c, (h_Lis_rising T).at c, (h_Lnames T).at c, (h_Lnamed T).at c, (h_falling_division T).at c, (h_renamed_steps T).at c, (h_Lis_refused T).at c, (h_rising_interpolant T).at c, (h_Lgate T).at c, (h_Lwidth T).at c, (h_Lcommon T).at c, (h_Lsigns T).at c, (h_Lvalues T).at c, (h_rising_value T).at c, (h_LwithL T).at c, (h_rising_half T).at c, (h_Lleft T).at c, (h_Lside T).at c, (h_Lis_refutation T).at c⟩
theorem law_ok (T : Txt K mg CS CW CM CN) {f : Addr} {fd : FuncData} (F : Fun K "law" "law" sP_law f fd) : FnOk P w K mg base CX0 105 f fd ["_law_script"] (spLaw K) := by
  refine F.ok scP_law (fun vs H Q E h => ?_) (fun cdv A outer s H vs Q E hr h => ?_)
  · obtain ⟨a, ns, rfl, _⟩ := h
    rfl
  · have fx : Fx (cxOf CX0 P w K mg base nP_law "law" (defScope sP_law) f cdv A outer s H E).nox (defScope sP_law) nP_law 104 := ⟨rfl, scP_law.nd, rfl, scP_law.kind, rfl, hr, T.bn, rfl⟩
    have fl : Fl (cxOf CX0 P w K mg base nP_law "law" (defScope sP_law) f cdv A outer s H E).nox := ⟨fun _ => rfl⟩
    have c : Ctx P w K mg base (cxOf CX0 P w K mg base nP_law "law" (defScope sP_law) f cdv A outer s H E).nox := ⟨rfl, rfl, rfl, rfl, rfl⟩
    exact b_law (Nat.le_refl _) ((h_Lpool T).at c) (lawH T c) vs H Q E h
end
end Rb
/-! what the head has written, as the layer reads it -/
namespace Rb
open PySem PySem.Spec L2
section
variable {K : PySem.W.Frag} {h : Heap} {mg : Str → Option Value} {x m qual : Str} {st : Stmt} {C f : Addr} {od an : Option Addr} {sl : Array (Option Value)} {oc kV dc pm cd ct : Value}
theorem bn_mk (X : K.In h) (G : h.Ns mainGlobals mg) (z1 : PySem.W.nsIn K mainGlobals "len" = some none) (z2 : PySem.W.nsIn K mainGlobals "sorted" = some none) (z3 : PySem.W.nsIn K mainGlobals "set" = some none) (z4 : PySem.W.nsIn K mainGlobals "tuple" = some none) (z5 : PySem.W.nsIn K mainGlobals "list" = some none)
    (z6 : PySem.W.nsIn K mainGlobals "abs" = some none) (z7 : PySem.W.nsIn K mainGlobals "max" = some none) (z8 : PySem.W.nsIn K mainGlobals "int" = some none) (z9 : PySem.W.nsIn K mainGlobals "isinstance" = some none) (za : PySem.W.nsIn K mainGlobals "range" = some none) (zb : PySem.W.nsIn K mainGlobals "enumerate" = some none)
    (zc : PySem.W.nsIn K mainGlobals "bool" = some none) (zd : PySem.W.nsIn K mainGlobals "str" = some none) : ∀ x ∈ BN, mg x = none := fun x hx => by
  unfold BN at hx
  simp only [List.mem_cons, List.not_mem_nil, or_false] at hx
  rcases hx with rfl | rfl | rfl | rfl | rfl | rfl | rfl | rfl | rfl | rfl | rfl | rfl | rfl
  · exact PySem.W.mg_none_of X G z1
  · exact PySem.W.mg_none_of X G z2
  · exact PySem.W.mg_none_of X G z3
  · exact PySem.W.mg_none_of X G z4
  · exact PySem.W.mg_none_of X G z5
  · exact PySem.W.mg_none_of X G z6
  · exact PySem.W.mg_none_of X G z7
  · exact PySem.W.mg_none_of X G z8
  · exact PySem.W.mg_none_of X G z9
  · exact PySem.W.mg_none_of X G za
  · exact PySem.W.mg_none_of X G zb
  · exact PySem.W.mg_none_of X G zc
  · exact PySem.W.mg_none_of X G zd
theorem atI_mk (X : K.In h) (G : h.Ns mainGlobals mg) (aC : PySem.W.nsIn K mainGlobals x = some (some (.ref C))) (a : PySem.W.findIn K (.ref C) "__init__" = some (some (.ref f))) (i : PySem.W.isFn K (.ref f) = true)
    (l : K.lookup f = some ⟨oc, od, .func (PySem.W.fnOf "__init__" qual (defArgs st) (defBody st) (defScope st) .none kV dc pm an cd ct), sl⟩) (c : PySem.W.codeIn K cd qual = true) (k : PySem.W.keepIn K (.ref f) = true)
    (mk : PySem.W.makesIn K C = true) (kc : PySem.W.keepIn K (.ref C) = true) : AtI K mg x C qual st := ⟨f, _, ⟨mk, a, i, kc⟩, PySem.W.mg_of X G aC, fun_mk l c k⟩
theorem atM_mk (cls : Cls K C) (a : PySem.W.findIn K (.ref C) m = some (some (.ref f))) (i : PySem.W.isFn K (.ref f) = true)
    (l : K.lookup f = some ⟨oc, od, .func (PySem.W.fnOf m qual (defArgs st) (defBody st) (defScope st) .none kV dc pm an cd ct), sl⟩) (c : PySem.W.codeIn K cd qual = true) (k : PySem.W.keepIn K (.ref f) = true) : AtM K C m qual st := ⟨f, _, cls, ⟨a, i, k⟩, fun_mk l c k⟩
theorem cls_mk (pg : PySem.W.plainGet K C Str.empty = true) (hd : PySem.W.hasDictIn K C = true) (po : PySem.W.plainOver K C = true) (sa : PySem.W.findIn K (.ref C) "__setattr__" = some (some (.builtin "object.__setattr__"))) : Cls K C := ⟨pg, hd, po, sa⟩
theorem na_mk (n : PySem.W.findIn K (.ref C) x = some none) : NoAttr K C x := n
theorem nr_exm (b : PySem.W.subIn K (.ref C) (.type "BaseException") = some true) (i : PySem.W.isClsIn K C = true) (t : PySem.W.typeIn K (.ref C) = some (.type "type")) (s : PySem.W.subIn K (.ref C) (.ref C) = some true) : PySem.W.exmOne K (.ref C) (.ref C) = some true := by
  unfold PySem.W.isClsIn at i
  unfold PySem.W.exmOne PySem.W.kitCls
  simp only [b, i, t, s]
  rfl
theorem nr_mk (X : K.In h) (G : h.Ns mainGlobals mg) (aC : PySem.W.nsIn K mainGlobals "NotRising" = some (some (.ref C))) (kC : PySem.W.keepIn K (.ref C) = true) (xC : PySem.W.excIn K C [.type "ValueError", .type "Exception", .type "BaseException", .type "object"] "ValueError.__new__" = true)
    (bC : PySem.W.subIn K (.ref C) (.type "BaseException") = some true) (tC : PySem.W.typeIn K (.ref C) = some (.type "type")) (iC : PySem.W.isClsIn K C = true) (sC : PySem.W.subIn K (.ref C) (.ref C) = some true) : NotRisingX K mg C :=
  ⟨⟨PySem.W.mg_of X G aC, kC, xC, bC, tC⟩, nr_exm bC iC tC sC⟩
theorem all_mk {l : PySem.W.OpenLaw} {w : World} {fa CS CW CM CN : Addr} (X : K.In h) (G : h.Ns mainGlobals mg) (hfa : mg "law" = some (.ref fa))
    (a : PySem.W.nsIn K mainGlobals "law" = some (some (.ref f))) (lk : K.lookup f = some ⟨oc, od, .func (PySem.W.fnOf "law" "law" (defArgs sP_law) (defBody sP_law) (defScope sP_law) .none kV dc pm an cd ct), sl⟩) (c : PySem.W.codeIn K cd "law" = true) (k : PySem.W.keepIn K (.ref f) = true)
    (nS : PySem.W.nsIn K mainGlobals "Sides" = some (some (.ref CS))) (nW : PySem.W.nsIn K mainGlobals "Shortener" = some (some (.ref CW))) (nM : PySem.W.nsIn K mainGlobals "RisingMaker" = some (some (.ref CM))) (nN : PySem.W.nsIn K mainGlobals "NotRising" = some (some (.ref CN)))
    (T : Txt K mg CS CW CM CN) : ∃ fd : FuncData, (∀ (s : Shared) (v : Value), BindsTo s fd ⟨[v], []⟩ [("_law_script", v)]) ∧ ∀ base : Heap, K.In base → base.Ns mainGlobals mg → FnOk l.prog w K mg base CX0 105 fa fd ["_law_script"] (spLaw K) := by
  have e := hfa.symm.trans (PySem.W.mg_of X G a)
  cases e
  exact ⟨PySem.W.fnOf "law" "law" (defArgs sP_law) (defBody sP_law) (defScope sP_law) .none kV dc pm an cd ct, fun s v => .of_eq rfl, fun base _ _ => law_ok T (fun_mk (st := sP_law) lk c k)⟩
end
end Rb
open PySem PySem.W PyProof.Rows in
set_option maxRecDepth 100000 in
set_option maxHeartbeats 0 in
theorem PySem.Challenge.cw_rebut_k97_whole_rising_interpolants_holds : PySem.Challenge.rw_rebut_k97_whole_rising_interpolants.Holds := by
  w_on; o_law; k_head; (case hw => w_witness2)
  k_fill
  refine Rb.walk (l := PySem.Challenge.rw_rebut_k97_whole_rising_interpolants) rfl rfl (fun w h Y => PySem.W.kIn_of Y) ?F
  case F =>
    intro w mg fa h KX G hmg
    refine' Rb.all_mk KX G hmg ?la ?ll ?lc ?lk ?nS ?nW ?nM ?nN ?T
    (case la => k_is)
    (case ll => k_is)
    (case lc => k_is)
    (case lk => k_is)
    (case nS => k_is)
    (case nW => k_is)
    (case nM => k_is)
    (case nN => k_is)
    case T =>
      refine' Rb.Txt.mk ?bn ?aP_is_integer ?aP_is_number ?aP_is_earlier ?aP_made_clause ?aP_satisfies ?aP_left_over ?aP_restricted ?aP_resolvent ?aP_axiom_clause ?aP_resolved_clause ?aP_renamed_clause ?aP_renamed ?aP_variables_of ?aP_side_formula ?aP_common_variables ?aP_is_rising ?aP_rising_gate ?aP_rising_values ?aP_rising_value ?aP_next_clause ?aP_sources ?aP_moved ?aP_pruned_to ?aP_check_rising ?aP_rising_interpolant ?aP_falling_division ?aP_renamed_step ?aP_renamed_steps ?aL_is_integer ?aL_spread ?aL_draw ?aL_rising ?aL_is_clause ?aL_with ?aL_negated ?aL_within ?aL_fails ?aL_leaf ?aL_free ?aL_cubes ?aL_model ?aL_some_clause ?aL_drawn_formula ?aL_false_formula ?aL_some_steps ?aL_next ?aL_clauses ?aL_is_refutation ?aL_width ?aL_division ?aL_side ?aL_occurring ?aL_common ?aL_values ?aL_signs ?aL_left ?aL_gate ?aL_is_rising ?aL_names ?aL_named ?aL_some_tree ?aL_write ?aL_same ?aL_pool ?aL_is_refused ?aP_rising_half ?sd ?sdI ?sdG ?wr ?wrI ?wrA ?wrR ?mkr ?mkI ?mkP ?mkW ?nr
      (case bn => (refine' Rb.bn_mk KX G ?z1 ?z2 ?z3 ?z4 ?z5 ?z6 ?z7 ?z8 ?z9 ?z10 ?z11 ?z12 ?z13; (case z1 => k_is); (case z2 => k_is); (case z3 => k_is); (case z4 => k_is); (case z5 => k_is); (case z6 => k_is); (case z7 => k_is); (case z8 => k_is); (case z9 => k_is); (case z10 => k_is); (case z11 => k_is); (case z12 => k_is); (case z13 => k_is)))
      (case aP_is_integer => (refine' Rb.at_mk KX G ?xa ?xl ?xc ?xk; (case xa => k_is); (case xl => k_is); (case xc => k_is); (case xk => k_is)))
      (case aP_is_number => (refine' Rb.at_mk KX G ?xa ?xl ?xc ?xk; (case xa => k_is); (case xl => k_is); (case xc => k_is); (case xk => k_is)))
      (case aP_is_earlier => (refine' Rb.at_mk KX G ?xa ?xl ?xc ?xk; (case xa => k_is); (case xl => k_is); (case xc => k_is); (case xk => k_is)))
      (case aP_made_clause => (refine' Rb.at_mk KX G ?xa ?xl ?xc ?xk; (case xa => k_is); (case xl => k_is); (case xc => k_is); (case xk => k_is)))
      (case aP_satisfies => (refine' Rb.at_mk KX G ?xa ?xl ?xc ?xk; (case xa => k_is); (case xl => k_is); (case xc => k_is); (case xk => k_is)))
      (case aP_left_over => (refine' Rb.at_mk KX G ?xa ?xl ?xc ?xk; (case xa => k_is); (case xl => k_is); (case xc => k_is); (case xk => k_is)))
      (case aP_restricted => (refine' Rb.at_mk KX G ?xa ?xl ?xc ?xk; (case xa => k_is); (case xl => k_is); (case xc => k_is); (case xk => k_is)))
      (case aP_resolvent => (refine' Rb.at_mk KX G ?xa ?xl ?xc ?xk; (case xa => k_is); (case xl => k_is); (case xc => k_is); (case xk => k_is)))
      (case aP_axiom_clause => (refine' Rb.at_mk KX G ?xa ?xl ?xc ?xk; (case xa => k_is); (case xl => k_is); (case xc => k_is); (case xk => k_is)))
      (case aP_resolved_clause => (refine' Rb.at_mk KX G ?xa ?xl ?xc ?xk; (case xa => k_is); (case xl => k_is); (case xc => k_is); (case xk => k_is)))
      (case aP_renamed_clause => (refine' Rb.at_mk KX G ?xa ?xl ?xc ?xk; (case xa => k_is); (case xl => k_is); (case xc => k_is); (case xk => k_is)))
      (case aP_renamed => (refine' Rb.at_mk KX G ?xa ?xl ?xc ?xk; (case xa => k_is); (case xl => k_is); (case xc => k_is); (case xk => k_is)))
      (case aP_variables_of => (refine' Rb.at_mk KX G ?xa ?xl ?xc ?xk; (case xa => k_is); (case xl => k_is); (case xc => k_is); (case xk => k_is)))
      (case aP_side_formula => (refine' Rb.at_mk KX G ?xa ?xl ?xc ?xk; (case xa => k_is); (case xl => k_is); (case xc => k_is); (case xk => k_is)))
      (case aP_common_variables => (refine' Rb.at_mk KX G ?xa ?xl ?xc ?xk; (case xa => k_is); (case xl => k_is); (case xc => k_is); (case xk => k_is)))
      (case aP_is_rising => (refine' Rb.at_mk KX G ?xa ?xl ?xc ?xk; (case xa => k_is); (case xl => k_is); (case xc => k_is); (case xk => k_is)))
      (case aP_rising_gate => (refine' Rb.at_mk KX G ?xa ?xl ?xc ?xk; (case xa => k_is); (case xl => k_is); (case xc => k_is); (case xk => k_is)))
      (case aP_rising_values => (refine' Rb.at_mk KX G ?xa ?xl ?xc ?xk; (case xa => k_is); (case xl => k_is); (case xc => k_is); (case xk => k_is)))
      (case aP_rising_value => (refine' Rb.at_mk KX G ?xa ?xl ?xc ?xk; (case xa => k_is); (case xl => k_is); (case xc => k_is); (case xk => k_is)))
      (case aP_next_clause => (refine' Rb.at_mk KX G ?xa ?xl ?xc ?xk; (case xa => k_is); (case xl => k_is); (case xc => k_is); (case xk => k_is)))
      (case aP_sources => (refine' Rb.at_mk KX G ?xa ?xl ?xc ?xk; (case xa => k_is); (case xl => k_is); (case xc => k_is); (case xk => k_is)))
      (case aP_moved => (refine' Rb.at_mk KX G ?xa ?xl ?xc ?xk; (case xa => k_is); (case xl => k_is); (case xc => k_is); (case xk => k_is)))
      (case aP_pruned_to => (refine' Rb.at_mk KX G ?xa ?xl ?xc ?xk; (case xa => k_is); (case xl => k_is); (case xc => k_is); (case xk => k_is)))
      (case aP_check_rising => (refine' Rb.at_mk KX G ?xa ?xl ?xc ?xk; (case xa => k_is); (case xl => k_is); (case xc => k_is); (case xk => k_is)))
      (case aP_rising_interpolant => (refine' Rb.at_mk KX G ?xa ?xl ?xc ?xk; (case xa => k_is); (case xl => k_is); (case xc => k_is); (case xk => k_is)))
      (case aP_falling_division => (refine' Rb.at_mk KX G ?xa ?xl ?xc ?xk; (case xa => k_is); (case xl => k_is); (case xc => k_is); (case xk => k_is)))
      (case aP_renamed_step => (refine' Rb.at_mk KX G ?xa ?xl ?xc ?xk; (case xa => k_is); (case xl => k_is); (case xc => k_is); (case xk => k_is)))
      (case aP_renamed_steps => (refine' Rb.at_mk KX G ?xa ?xl ?xc ?xk; (case xa => k_is); (case xl => k_is); (case xc => k_is); (case xk => k_is)))
      (case aL_is_integer => (refine' Rb.at_mk KX G ?xa ?xl ?xc ?xk; (case xa => k_is); (case xl => k_is); (case xc => k_is); (case xk => k_is)))
      (case aL_spread => (refine' Rb.at_mk KX G ?xa ?xl ?xc ?xk; (case xa => k_is); (case xl => k_is); (case xc => k_is); (case xk => k_is)))
      (case aL_draw => (refine' Rb.at_mk KX G ?xa ?xl ?xc ?xk; (case xa => k_is); (case xl => k_is); (case xc => k_is); (case xk => k_is)))
      (case aL_rising => (refine' Rb.at_mk KX G ?xa ?xl ?xc ?xk; (case xa => k_is); (case xl => k_is); (case xc => k_is); (case xk => k_is)))
      (case aL_is_clause => (refine' Rb.at_mk KX G ?xa ?xl ?xc ?xk; (case xa => k_is); (case xl => k_is); (case xc => k_is); (case xk => k_is)))
      (case aL_with => (refine' Rb.at_mk KX G ?xa ?xl ?xc ?xk; (case xa => k_is); (case xl => k_is); (case xc => k_is); (case xk => k_is)))
      (case aL_negated => (refine' Rb.at_mk KX G ?xa ?xl ?xc ?xk; (case xa => k_is); (case xl => k_is); (case xc => k_is); (case xk => k_is)))
      (case aL_within => (refine' Rb.at_mk KX G ?xa ?xl ?xc ?xk; (case xa => k_is); (case xl => k_is); (case xc => k_is); (case xk => k_is)))
      (case aL_fails => (refine' Rb.at_mk KX G ?xa ?xl ?xc ?xk; (case xa => k_is); (case xl => k_is); (case xc => k_is); (case xk => k_is)))
      (case aL_leaf => (refine' Rb.at_mk KX G ?xa ?xl ?xc ?xk; (case xa => k_is); (case xl => k_is); (case xc => k_is); (case xk => k_is)))
      (case aL_free => (refine' Rb.at_mk KX G ?xa ?xl ?xc ?xk; (case xa => k_is); (case xl => k_is); (case xc => k_is); (case xk => k_is)))
      (case aL_cubes => (refine' Rb.at_mk KX G ?xa ?xl ?xc ?xk; (case xa => k_is); (case xl => k_is); (case xc => k_is); (case xk => k_is)))
      (case aL_model => (refine' Rb.at_mk KX G ?xa ?xl ?xc ?xk; (case xa => k_is); (case xl => k_is); (case xc => k_is); (case xk => k_is)))
      (case aL_some_clause => (refine' Rb.at_mk KX G ?xa ?xl ?xc ?xk; (case xa => k_is); (case xl => k_is); (case xc => k_is); (case xk => k_is)))
      (case aL_drawn_formula => (refine' Rb.at_mk KX G ?xa ?xl ?xc ?xk; (case xa => k_is); (case xl => k_is); (case xc => k_is); (case xk => k_is)))
      (case aL_false_formula => (refine' Rb.at_mk KX G ?xa ?xl ?xc ?xk; (case xa => k_is); (case xl => k_is); (case xc => k_is); (case xk => k_is)))
      (case aL_some_steps => (refine' Rb.at_mk KX G ?xa ?xl ?xc ?xk; (case xa => k_is); (case xl => k_is); (case xc => k_is); (case xk => k_is)))
      (case aL_next => (refine' Rb.at_mk KX G ?xa ?xl ?xc ?xk; (case xa => k_is); (case xl => k_is); (case xc => k_is); (case xk => k_is)))
      (case aL_clauses => (refine' Rb.at_mk KX G ?xa ?xl ?xc ?xk; (case xa => k_is); (case xl => k_is); (case xc => k_is); (case xk => k_is)))
      (case aL_is_refutation => (refine' Rb.at_mk KX G ?xa ?xl ?xc ?xk; (case xa => k_is); (case xl => k_is); (case xc => k_is); (case xk => k_is)))
      (case aL_width => (refine' Rb.at_mk KX G ?xa ?xl ?xc ?xk; (case xa => k_is); (case xl => k_is); (case xc => k_is); (case xk => k_is)))
      (case aL_division => (refine' Rb.at_mk KX G ?xa ?xl ?xc ?xk; (case xa => k_is); (case xl => k_is); (case xc => k_is); (case xk => k_is)))
      (case aL_side => (refine' Rb.at_mk KX G ?xa ?xl ?xc ?xk; (case xa => k_is); (case xl => k_is); (case xc => k_is); (case xk => k_is)))
      (case aL_occurring => (refine' Rb.at_mk KX G ?xa ?xl ?xc ?xk; (case xa => k_is); (case xl => k_is); (case xc => k_is); (case xk => k_is)))
      (case aL_common => (refine' Rb.at_mk KX G ?xa ?xl ?xc ?xk; (case xa => k_is); (case xl => k_is); (case xc => k_is); (case xk => k_is)))
      (case aL_values => (refine' Rb.at_mk KX G ?xa ?xl ?xc ?xk; (case xa => k_is); (case xl => k_is); (case xc => k_is); (case xk => k_is)))
      (case aL_signs => (refine' Rb.at_mk KX G ?xa ?xl ?xc ?xk; (case xa => k_is); (case xl => k_is); (case xc => k_is); (case xk => k_is)))
      (case aL_left => (refine' Rb.at_mk KX G ?xa ?xl ?xc ?xk; (case xa => k_is); (case xl => k_is); (case xc => k_is); (case xk => k_is)))
      (case aL_gate => (refine' Rb.at_mk KX G ?xa ?xl ?xc ?xk; (case xa => k_is); (case xl => k_is); (case xc => k_is); (case xk => k_is)))
      (case aL_is_rising => (refine' Rb.at_mk KX G ?xa ?xl ?xc ?xk; (case xa => k_is); (case xl => k_is); (case xc => k_is); (case xk => k_is)))
      (case aL_names => (refine' Rb.at_mk KX G ?xa ?xl ?xc ?xk; (case xa => k_is); (case xl => k_is); (case xc => k_is); (case xk => k_is)))
      (case aL_named => (refine' Rb.at_mk KX G ?xa ?xl ?xc ?xk; (case xa => k_is); (case xl => k_is); (case xc => k_is); (case xk => k_is)))
      (case aL_some_tree => (refine' Rb.at_mk KX G ?xa ?xl ?xc ?xk; (case xa => k_is); (case xl => k_is); (case xc => k_is); (case xk => k_is)))
      (case aL_write => (refine' Rb.at_mk KX G ?xa ?xl ?xc ?xk; (case xa => k_is); (case xl => k_is); (case xc => k_is); (case xk => k_is)))
      (case aL_same => (refine' Rb.at_mk KX G ?xa ?xl ?xc ?xk; (case xa => k_is); (case xl => k_is); (case xc => k_is); (case xk => k_is)))
      (case aL_pool => (refine' Rb.at_mk KX G ?xa ?xl ?xc ?xk; (case xa => k_is); (case xl => k_is); (case xc => k_is); (case xk => k_is)))
      (case aL_is_refused => (refine' Rb.at_mk KX G ?xa ?xl ?xc ?xk; (case xa => k_is); (case xl => k_is); (case xc => k_is); (case xk => k_is)))
      (case aP_rising_half => (refine' Rb.at_mk KX G ?xa ?xl ?xc ?xk; (case xa => k_is); (case xl => k_is); (case xc => k_is); (case xk => k_is)))
      (case sd => (refine' Rb.SidesOk.mk ?xcl ?n1 ?n2 ?n3; (case xcl => (refine' Rb.cls_mk ?pg ?hd ?po ?sa; (case pg => k_is); (case hd => k_is); (case po => k_is); (case sa => k_is))); (case n1 => (refine' Rb.na_mk ?xn; (case xn => k_is))); (case n2 => (refine' Rb.na_mk ?xn; (case xn => k_is))); (case n3 => (refine' Rb.na_mk ?xn; (case xn => k_is)))))
      (case sdI => (refine' Rb.atI_mk KX G ?xC ?xa ?xi ?xl ?xc ?xk ?xm ?xq; (case xC => k_is); (case xa => k_is); (case xi => k_is); (case xl => k_is); (case xc => k_is); (case xk => k_is); (case xm => k_is); (case xq => k_is)))
      (case sdG => (refine' Rb.atM_mk ?xcl ?xa ?xi ?xl ?xc ?xk; (case xcl => (refine' Rb.cls_mk ?pg ?hd ?po ?sa; (case pg => k_is); (case hd => k_is); (case po => k_is); (case sa => k_is))); (case xa => k_is); (case xi => k_is); (case xl => k_is); (case xc => k_is); (case xk => k_is)))
      (case wr => (refine' Rb.WrCls.mk ?xcl ?n1 ?n2 ?n3; (case xcl => (refine' Rb.cls_mk ?pg ?hd ?po ?sa; (case pg => k_is); (case hd => k_is); (case po => k_is); (case sa => k_is))); (case n1 => (refine' Rb.na_mk ?xn; (case xn => k_is))); (case n2 => (refine' Rb.na_mk ?xn; (case xn => k_is))); (case n3 => (refine' Rb.na_mk ?xn; (case xn => k_is)))))
      (case wrI => (refine' Rb.atI_mk KX G ?xC ?xa ?xi ?xl ?xc ?xk ?xm ?xq; (case xC => k_is); (case xa => k_is); (case xi => k_is); (case xl => k_is); (case xc => k_is); (case xk => k_is); (case xm => k_is); (case xq => k_is)))
      (case wrA => (refine' Rb.atM_mk ?xcl ?xa ?xi ?xl ?xc ?xk; (case xcl => (refine' Rb.cls_mk ?pg ?hd ?po ?sa; (case pg => k_is); (case hd => k_is); (case po => k_is); (case sa => k_is))); (case xa => k_is); (case xi => k_is); (case xl => k_is); (case xc => k_is); (case xk => k_is)))
      (case wrR => (refine' Rb.atM_mk ?xcl ?xa ?xi ?xl ?xc ?xk; (case xcl => (refine' Rb.cls_mk ?pg ?hd ?po ?sa; (case pg => k_is); (case hd => k_is); (case po => k_is); (case sa => k_is))); (case xa => k_is); (case xi => k_is); (case xl => k_is); (case xc => k_is); (case xk => k_is)))
      (case mkr => (refine' Rb.MkCls.mk ?xcl ?n1 ?n2 ?n3 ?n4 ?n5 ?n6 ?n7 ?n8 ?n9; (case xcl => (refine' Rb.cls_mk ?pg ?hd ?po ?sa; (case pg => k_is); (case hd => k_is); (case po => k_is); (case sa => k_is))); (case n1 => (refine' Rb.na_mk ?xn; (case xn => k_is))); (case n2 => (refine' Rb.na_mk ?xn; (case xn => k_is))); (case n3 => (refine' Rb.na_mk ?xn; (case xn => k_is))); (case n4 => (refine' Rb.na_mk ?xn; (case xn => k_is))); (case n5 => (refine' Rb.na_mk ?xn; (case xn => k_is))); (case n6 => (refine' Rb.na_mk ?xn; (case xn => k_is))); (case n7 => (refine' Rb.na_mk ?xn; (case xn => k_is))); (case n8 => (refine' Rb.na_mk ?xn; (case xn => k_is))); (case n9 => (refine' Rb.na_mk ?xn; (case xn => k_is)))))
      (case mkI => (refine' Rb.atI_mk KX G ?xC ?xa ?xi ?xl ?xc ?xk ?xm ?xq; (case xC => k_is); (case xa => k_is); (case xi => k_is); (case xl => k_is); (case xc => k_is); (case xk => k_is); (case xm => k_is); (case xq => k_is)))
      (case mkP => (refine' Rb.atM_mk ?xcl ?xa ?xi ?xl ?xc ?xk; (case xcl => (refine' Rb.cls_mk ?pg ?hd ?po ?sa; (case pg => k_is); (case hd => k_is); (case po => k_is); (case sa => k_is))); (case xa => k_is); (case xi => k_is); (case xl => k_is); (case xc => k_is); (case xk => k_is)))
      (case mkW => (refine' Rb.atM_mk ?xcl ?xa ?xi ?xl ?xc ?xk; (case xcl => (refine' Rb.cls_mk ?pg ?hd ?po ?sa; (case pg => k_is); (case hd => k_is); (case po => k_is); (case sa => k_is))); (case xa => k_is); (case xi => k_is); (case xl => k_is); (case xc => k_is); (case xk => k_is)))
      (case nr => (refine' Rb.nr_mk KX G ?xa ?xk ?xx ?xb ?xt ?xi ?xs; (case xa => k_is); (case xk => k_is); (case xx => k_exc); (case xb => k_is); (case xt => k_is); (case xi => k_is); (case xs => first | rfl | k_is)))
